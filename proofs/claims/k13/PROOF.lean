import PyProof.Rows.All
import Wide.All
import OpenK.AllK
import Wide.FinOn
import HandS.ForMost
import HandS.Exc
import HandS.ExcOwn
import HandS.WordsExc
import HandS.CallSlots
import KE.KeyNested
import HandS.TupAny
import HandS.Deep
import HandS.IsInst
import HandS.WordsDict
import HandS.SortKw
import KE.DataMinMax
import HandS.CallLocal
import HandS.Dict
import HandS.Sort
import HandS.TryElse
import HandS.ExcIs
import KE.KEqDict
import HandS.Iter
import PyProof.DictRoadsH
import KE.SortCalls
import KE.KDictCopyH
import KE.KDictSum
import HandS.Text
import HandS.More
import KE.GoesMore
import HandS.Zip
import KE.KRevSl
import HandS.SetFor
import HandS.Strs
import HandS.TupSets
import HandS.DictComp
import PySem.Challenge.RW_elsewhere_k13_truth_in_models
set_option Elab.async false
set_option linter.all false
set_option maxRecDepth 100000
/-! The layer of plain data: what an expression, a statement, a def does, told by functions on trees. -/
namespace Fx
open PySem PySem.Spec L2

/-- a value as a tree; `ref n` is the n-th object that may still change; lists, dicts, instances within a tree stand still -/
inductive D where
  | non | bl (b : Bool) | int (i : Int) | str (x : Str)
  | tup (xs : List D) | lst (xs : List D)
  | dic (ks xs : List D)
  | dct (ks xs : List D)
  | ins (c : Str) (ns : List Str) (xs : List D)
  | fn (x : Str) | ref (n : Nat)
  deriving Inhabited

def keyOf : D → Option Key
  | .int i => some (.inl i)
  | .str x => some (.inr x)
  | _ => none

mutual
/-- a tuple of texts, numbers and such tuples as a key -/
def toKey : D → Option NestedKey
  | .int i => some (.num i)
  | .str x => some (.text x)
  | .tup ds => (toKeys ds).map .tup
  | _ => none
def toKeys : List D → Option (List NestedKey)
  | [] => some []
  | d :: ds => match toKey d, toKeys ds with
    | some k, some ks => some (k :: ks)
    | _, _ => none
end
/-- a dict whose keys are tuples: its entries -/
def DNo (a : Addr) (es : List DictEntry) (ep : Nat) : HO := .ext fun h => ∃ o, h.get? a = some o ∧ o.ExactDict ∧ o.data = .dict es.toArray ep ∧ es.length ≤ sizeLine ∧ (a == sysModules) = false
/-- entries, keys, where the keys stand, values -/
inductive DEnts (w : World) : List DictEntry → List D → List Addr → List V → Prop
  | nil : DEnts w [] [] [] []
  | cons {e : DictEntry} {k : D} {κ : List NestedKey} {a : Addr} {v : V} {es : List DictEntry} {ks : List D} {as : List Addr} {vs : List V} : toKey k = some (.tup κ) → (NestedKey.tup κ).depth ≤ 8 → e.hash = (NestedKey.tup κ).hash w → e.key = .ref a → RelV v e.val → DEnts w es ks as vs → DEnts w (e :: es) (k :: ks) (a :: as) (v :: vs)
/-- a tuple, a list that stands still: tracked and not among the changing ones, or written -/
def KT (K : PySem.W.Frag) (a : Addr) (xs : List V) : Prop := ∃ (o : Obj) (its : Array Value) (n : Nat), K.lookup a = some o ∧ o.cls = .type "tuple" ∧ o.data = .seq its n ∧ its.size ≤ sizeLine ∧ Vals xs its.toList
/-- where the changing objects stand: those that have a number, those that are hidden just now -/
structure Zn where
  r : List Addr
  h : List Addr
def Zn.Out (ρ : Zn) (a : Addr) : Prop := a ∉ ρ.r ∧ a ∉ ρ.h
def KL (K : PySem.W.Frag) (a : Addr) (xs : List V) : Prop := ∃ (o : Obj) (its : Array Value) (n : Nat), K.lookup a = some o ∧ o.cls = .type "list" ∧ o.dict = none ∧ o.data = .seq its n ∧ its.size ≤ sizeLine ∧ Vals xs its.toList
def Still (ρ : Zn) (H : Hp) (a : Addr) (u : HO) : Prop := ρ.Out a ∧ Rd H a u

structure Cfg where
  K : PySem.W.Frag
  mg : Str → Option Value
  w : World

mutual
def Rep (C : Cfg) (ρ : Zn) (H : Hp) : D → V → Prop
  | .non, v => v = .non
  | .bl b, v => v = .bl b
  | .int i, v => v = .int i
  | .str x, v => v = .str x
  | .fn x, v => ∃ a, C.mg x = some (.ref a) ∧ v = .ref a
  | .ref n, v => ∃ a, ρ.r[n]? = some a ∧ v = .ref a
  | .tup ds, v => ∃ a vs, v = .ref a ∧ (Still ρ H a (.tup vs) ∨ KT C.K a vs) ∧ Reps C ρ H ds vs
  | .lst ds, v => ∃ a vs, v = .ref a ∧ (Still ρ H a (.lst vs) ∨ KL C.K a vs) ∧ Reps C ρ H ds vs
  | .dic ks ds, v => ∃ a kvs, v = .ref a ∧ Still ρ H a (.dK kvs) ∧ ks.map keyOf = kvs.map (fun p => some p.1) ∧ Reps C ρ H ds (kvs.map (·.2))
  | .dct ks ds, v => ∃ a es ep as vs, v = .ref a ∧ Still ρ H a (DNo a es ep) ∧ DEnts C.w es ks as vs ∧ (ks.map toKey).Nodup ∧ Reps C ρ H ks (as.map .ref) ∧ Reps C ρ H ds vs
  | .ins c ns ds, v => ∃ a A dx fs, v = .ref a ∧ C.mg c = some (.ref A) ∧ ρ.Out a ∧ H a = some (.ins A dx fs) ∧ ns = fs.map (·.1) ∧ Reps C ρ H ds (fs.map (·.2))
def Reps (C : Cfg) (ρ : Zn) (H : Hp) : List D → List V → Prop
  | [], vs => vs = []
  | d :: ds, vs => ∃ v r, vs = v :: r ∧ Rep C ρ H d v ∧ Reps C ρ H ds r
end

/-- an object that may change -/
def RepO (C : Cfg) (ρ : Zn) (H : Hp) : D → Addr → Prop
  | .lst ds, a => ∃ vs, H a = some (.lst vs) ∧ Reps C ρ H ds vs
  | .dic ks ds, a => ∃ kvs, H a = some (.dK kvs) ∧ ks.map keyOf = kvs.map (fun p => some p.1) ∧ Reps C ρ H ds (kvs.map (·.2))
  | .dct ks ds, a => ∃ es ep as vs, H a = some (DNo a es ep) ∧ DEnts C.w es ks as vs ∧ (ks.map toKey).Nodup ∧ Reps C ρ H ks (as.map .ref) ∧ Reps C ρ H ds vs
  | .ins c ns ds, a => ∃ A dx fs, C.mg c = some (.ref A) ∧ H a = some (.ins A dx fs) ∧ ns = fs.map (·.1) ∧ Reps C ρ H ds (fs.map (·.2))
  | _, _ => False

structure RepS (C : Cfg) (ρ : Zn) (H : Hp) (w : List D) : Prop where
  len : ρ.r.length = w.length
  nd : ρ.r.Nodup
  obj : ∀ (i : Nat) a d, ρ.r[i]? = some a → w[i]? = some d → RepO C ρ H d a
  hid : ∀ a ∈ ρ.h, a ∉ ρ.r ∧ ∃ o, H a = some o

abbrev Env := List (Option D)
structure RepE (C : Cfg) (ρ : Zn) (H : Hp) (env : Env) (σ : St) : Prop where
  len : env.length = σ.length
  at' : ∀ (i : Nat) d, env[i]? = some (some d) → ∃ v, σ[i]? = some (some v) ∧ Rep C ρ H d v

structure ExtR (ρ ρ' : Zn) (H H' : Hp) : Prop where
  pre : ∃ ν, ρ'.r = ρ.r ++ ν
  keep : ∀ a o, H a = some o → ρ.Out a → H' a = some o ∧ ρ'.Out a
structure Ext (ρ ρ' : Zn) (H H' : Hp) : Prop where
  pre : ∃ ν, ρ'.r = ρ.r ++ ν
  hid : ρ'.h = ρ.h
  keep : ∀ a o, H a = some o → ρ.Out a → H' a = some o ∧ ρ'.Out a
  same : ∀ a ∈ ρ.h, H' a = H a
theorem Ext.r {ρ ρ' : Zn} {H H' : Hp} (x : Ext ρ ρ' H H') : ExtR ρ ρ' H H' := ⟨x.pre, x.keep⟩

theorem Ext.refl {ρ : Zn} {H : Hp} : Ext ρ ρ H H := ⟨⟨[], by simp⟩, rfl, fun _ _ e n => ⟨e, n⟩, fun _ _ => rfl⟩
theorem Ext.trans {ρ ρ1 ρ2 : Zn} {H H1 H2 : Hp} (a : Ext ρ ρ1 H H1) (b : Ext ρ1 ρ2 H1 H2) : Ext ρ ρ2 H H2 := by
  obtain ⟨⟨ν, e1⟩, ha, ka, sa⟩ := a
  obtain ⟨⟨μ, e2⟩, hb, kb, sb⟩ := b
  refine ⟨⟨ν ++ μ, by rw [e2, e1, List.append_assoc]⟩, hb.trans ha, fun c o e n => ?_, fun c hc => (sb c (by rw [ha]; exact hc)).trans (sa c hc)⟩
  obtain ⟨e1, n1⟩ := ka c o e n
  exact kb c o e1 n1
theorem ExtR.ref {ρ ρ' : Zn} {H H' : Hp} (x : ExtR ρ ρ' H H') {n : Nat} {a : Addr} (h : ρ.r[n]? = some a) : ρ'.r[n]? = some a := by
  obtain ⟨⟨ν, e⟩, _⟩ := x
  have hl := (List.getElem?_eq_some_iff.mp h).1
  rw [e, List.getElem?_append_left hl]
  exact h
theorem Still.extR {ρ ρ' : Zn} {H H' : Hp} {a : Addr} {u : HO} (x : ExtR ρ ρ' H H') (h : Still ρ H a u) : Still ρ' H' a u := by
  obtain ⟨n, h | ⟨o, h⟩⟩ := h
  · obtain ⟨e, n'⟩ := x.keep _ _ h n
    exact ⟨n', .inl e⟩
  · obtain ⟨e, n'⟩ := x.keep _ _ h n
    exact ⟨n', .inr ⟨o, e⟩⟩

section
variable {C : Cfg} {ρ ρ' : Zn} {H H' : Hp}
mutual
theorem Rep.extR (x : ExtR ρ ρ' H H') : ∀ (d : D) {v : V}, Rep C ρ H d v → Rep C ρ' H' d v
  | .non, v, h => h
  | .bl b, v, h => h
  | .int i, v, h => h
  | .str i, v, h => h
  | .fn i, v, h => h
  | .ref n, v, ⟨a, h, e⟩ => ⟨a, x.ref h, e⟩
  | .tup ds, v, ⟨a, vs, e, h, r⟩ => ⟨a, vs, e, h.imp (Still.extR x) id, Reps.extR x ds r⟩
  | .lst ds, v, ⟨a, vs, e, h, r⟩ => ⟨a, vs, e, h.imp (Still.extR x) id, Reps.extR x ds r⟩
  | .dic ks ds, v, ⟨a, kvs, e, h, k, r⟩ => ⟨a, kvs, e, Still.extR x h, k, Reps.extR x ds r⟩
  | .dct ks ds, v, ⟨a, es, ep, as, vs, e, h, en, nd, rk, r⟩ => ⟨a, es, ep, as, vs, e, Still.extR x h, en, nd, Reps.extR x ks rk, Reps.extR x ds r⟩
  | .ins c ns ds, v, ⟨a, A, dx, fs, e, m, n, h, k, r⟩ => ⟨a, A, dx, fs, e, m, (x.keep _ _ h n).2, (x.keep _ _ h n).1, k, Reps.extR x ds r⟩
theorem Reps.extR (x : ExtR ρ ρ' H H') : ∀ (ds : List D) {vs : List V}, Reps C ρ H ds vs → Reps C ρ' H' ds vs
  | [], vs, h => h
  | d :: ds, vs, ⟨v, r, e, h1, h2⟩ => ⟨v, r, e, Rep.extR x d h1, Reps.extR x ds h2⟩
end
theorem Still.ext {a : Addr} {u : HO} (x : Ext ρ ρ' H H') (h : Still ρ H a u) : Still ρ' H' a u := h.extR x.r
theorem Rep.ext (x : Ext ρ ρ' H H') (d : D) {v : V} (h : Rep C ρ H d v) : Rep C ρ' H' d v := Rep.extR x.r d h
theorem Reps.ext (x : Ext ρ ρ' H H') (ds : List D) {vs : List V} (h : Reps C ρ H ds vs) : Reps C ρ' H' ds vs := Reps.extR x.r ds h
theorem RepE.extR {env : Env} {σ : St} (x : ExtR ρ ρ' H H') (h : RepE C ρ H env σ) : RepE C ρ' H' env σ := ⟨h.len, fun i d e => by
  obtain ⟨v, h1, h2⟩ := h.at' i d e
  exact ⟨v, h1, Rep.extR x d h2⟩⟩
theorem RepE.ext {env : Env} {σ : St} (x : Ext ρ ρ' H H') (h : RepE C ρ H env σ) : RepE C ρ' H' env σ := ⟨h.len, fun i d e => by
  obtain ⟨v, h1, h2⟩ := h.at' i d e
  exact ⟨v, h1, Rep.ext x d h2⟩⟩
theorem Reps.len : ∀ {ds : List D} {vs : List V}, Reps C ρ H ds vs → ds.length = vs.length
  | [], _, h => by
    have e : _ = [] := h
    rw [e]
    rfl
  | _ :: ds, _, ⟨v, r, e, _, h⟩ => by
    rw [e, List.length_cons, List.length_cons, Reps.len h]
theorem Reps.get : ∀ {ds : List D} {vs : List V} {i : Nat} {d : D}, Reps C ρ H ds vs → ds[i]? = some d → ∃ v, vs[i]? = some v ∧ Rep C ρ H d v
  | [], _, _, _, _, e => by simp at e
  | d :: ds, _, 0, d', ⟨v, r, e, h1, _⟩, q => by
    simp only [List.getElem?_cons_zero, Option.some.injEq] at q
    subst q
    subst e
    exact ⟨v, rfl, h1⟩
  | d :: ds, _, i + 1, d', ⟨v, r, e, _, h2⟩, q => by
    subst e
    exact Reps.get (i := i) h2 (by simpa using q)
theorem Reps.none : ∀ {ds : List D} {vs : List V} {i : Nat}, Reps C ρ H ds vs → ds[i]? = none → vs[i]? = none := fun {ds vs i} h e => by
  have h1 := h.len
  have h2 : ds.length ≤ i := List.getElem?_eq_none_iff.mp e
  exact List.getElem?_eq_none_iff.mpr (by omega)
theorem Reps.append : ∀ {ds es : List D} {vs us : List V}, Reps C ρ H ds vs → Reps C ρ H es us → Reps C ρ H (ds ++ es) (vs ++ us)
  | [], _, vs, us, h, h' => by
    have e : vs = [] := h
    subst e
    exact h'
  | d :: ds, _, _, _, ⟨v, r, e, h1, h2⟩, h' => by
    subst e
    exact ⟨v, _, rfl, h1, Reps.append h2 h'⟩
theorem Reps.nil : Reps C ρ H [] [] := rfl
theorem Reps.one {d : D} {v : V} (h : Rep C ρ H d v) : Reps C ρ H [d] [v] := ⟨v, [], rfl, h, rfl⟩
theorem Reps.take : ∀ {ds : List D} {vs : List V} (n : Nat), Reps C ρ H ds vs → Reps C ρ H (ds.take n) (vs.take n)
  | ds, vs, 0, _ => by simp [Reps]
  | [], vs, n + 1, h => by
    have e : vs = [] := h
    subst e
    exact rfl
  | d :: ds, _, n + 1, ⟨v, r, e, h1, h2⟩ => by
    subst e
    exact ⟨v, r.take n, rfl, h1, Reps.take n h2⟩
theorem Reps.drop : ∀ {ds : List D} {vs : List V} (n : Nat), Reps C ρ H ds vs → Reps C ρ H (ds.drop n) (vs.drop n)
  | ds, vs, 0, h => h
  | [], vs, n + 1, h => by
    have e : vs = [] := h
    subst e
    exact rfl
  | d :: ds, _, n + 1, ⟨v, r, e, _, h2⟩ => by
    subst e
    exact Reps.drop n h2
theorem Reps.set {d : D} {v : V} (hd : Rep C ρ H d v) : ∀ {ds : List D} {vs : List V} (i : Nat), Reps C ρ H ds vs → Reps C ρ H (ds.set i d) (vs.set i v)
  | [], vs, i, h => by
    have e : vs = [] := h
    subst e
    exact rfl
  | d' :: ds, _, 0, ⟨v', r, e, _, h2⟩ => by
    subst e
    exact ⟨v, r, rfl, hd, h2⟩
  | d' :: ds, _, i + 1, ⟨v', r, e, h1, h2⟩ => by
    subst e
    exact ⟨v', r.set i v, rfl, h1, Reps.set hd i h2⟩
theorem Reps.eraseIdx : ∀ {ds : List D} {vs : List V} (i : Nat), Reps C ρ H ds vs → Reps C ρ H (ds.eraseIdx i) (vs.eraseIdx i)
  | [], vs, i, h => by
    have e : vs = [] := h
    subst e
    exact rfl
  | d' :: ds, _, 0, ⟨v', r, e, _, h2⟩ => by
    subst e
    exact h2
  | d' :: ds, _, i + 1, ⟨v', r, e, h1, h2⟩ => by
    subst e
    exact ⟨v', _, rfl, h1, Reps.eraseIdx i h2⟩
theorem Reps.reverse : ∀ {ds : List D} {vs : List V}, Reps C ρ H ds vs → Reps C ρ H ds.reverse vs.reverse
  | [], vs, h => by
    have e : vs = [] := h
    subst e
    exact rfl
  | d :: ds, _, ⟨v, r, e, h1, h2⟩ => by
    subst e
    rw [List.reverse_cons, List.reverse_cons]
    exact Reps.append (Reps.reverse h2) (Reps.one h1)
theorem Reps.of_get {ds : List D} {vs : List V} (hl : ds.length = vs.length) (h : ∀ (i : Nat) d v, ds[i]? = some d → vs[i]? = some v → Rep C ρ H d v) : Reps C ρ H ds vs := by
  induction ds generalizing vs with
  | nil =>
    cases vs with
    | nil => exact rfl
    | cons _ _ => simp at hl
  | cons d ds ih =>
    cases vs with
    | nil => simp at hl
    | cons v vs =>
      exact ⟨v, vs, rfl, h 0 d v rfl rfl, ih (by simpa using hl) fun i d' v' h1 h2 => h (i + 1) d' v' (by simpa using h1) (by simpa using h2)⟩
end

/-! ### what is computed -/
inductive Out (α : Type) where
  | ok (a : α) (w : List D)
  | exn (c : Str) (ns : List Str) (xs : List D) (w : List D)
  | no
/-- ro: the objects of those who called, w: the own ones -/
abbrev M (α : Type) := List D → List D → Out α
def M.pure {α : Type} (a : α) : M α := fun _ w => .ok a w
def M.no {α : Type} : M α := fun _ _ => .no
def M.exn {α : Type} (c : Str) (ns : List Str) (xs : List D) : M α := fun _ w => .exn c ns xs w
def M.bind {α β : Type} (m : M α) (f : α → M β) : M β := fun ro w => match m ro w with
  | .ok a w' => f a ro w'
  | .exn c ns xs w' => .exn c ns xs w'
  | .no => .no
instance : Monad M where
  pure := M.pure
  bind := M.bind
theorem bind_def {α β : Type} (m : M α) (f : α → M β) : (m >>= f) = M.bind m f := rfl
theorem pure_def {α : Type} (a : α) : (pure a : M α) = M.pure a := rfl

/-- an exception: its class, its own dict -/
def RepX (C : Cfg) (ρ : Zn) (H : Hp) (c : Str) (ns : List Str) (xs : List D) (cls : Value) (dx : Option Addr) : Prop :=
  ∃ A, C.mg c = some (.ref A) ∧ cls = .ref A ∧ ((ns = [] ∧ xs = [] ∧ dx = none) ∨ ∃ d fs, dx = some d ∧ ns ≠ [] ∧ ρ.Out d ∧ H d = some (.xd fs) ∧ ns = fs.map (·.1) ∧ Reps C ρ H xs (fs.map (·.2)))

section
variable {α β : Type}
def AfterR (C : Cfg) (R : Zn → Hp → α → β → Prop) (W : WX) (σ : St) (ρ : Zn) (H : Hp) (ro : List D) (o : Out α) (Q : β → Hp → Prop) : Prop :=
  match o with
  | .ok d w => ∀ v ρ' H', Ext ρ ρ' H H' → RepS C ρ' H' (ro ++ w) → R ρ' H' d v → Q v H'
  | .exn c ns xs w => ∀ cls dx ρ' H', Ext ρ ρ' H H' → RepS C ρ' H' (ro ++ w) → RepX C ρ' H' c ns xs cls dx → W cls dx σ H'
  | .no => False
def tR (C : Cfg) (R : Zn → Hp → α → β → Prop) (W : WX) (f : Env → M α) : St → Hp → (β → Hp → Prop) → Prop := fun σ H Q =>
  ∃ ρ env ro w, RepS C ρ H (ro ++ w) ∧ RepE C ρ H env σ ∧ AfterR C R W σ ρ H ro (f env ro w) Q

variable {C : Cfg} {R : Zn → Hp → α → β → Prop} {W : WX} {σ : St} {ρ ρ' : Zn} {H H' : Hp} {ro w : List D} {Q Q' : β → Hp → Prop}
theorem AfterR.ext {o : Out α} (x : Ext ρ ρ' H H') (h : AfterR C R W σ ρ H ro o Q) : AfterR C R W σ ρ' H' ro o Q := by
  cases o with
  | ok d w => exact fun v ρ2 H2 y hS hR => h v ρ2 H2 (x.trans y) hS hR
  | exn c ns xs w => exact fun cls dx ρ2 H2 y hS hR => h cls dx ρ2 H2 (x.trans y) hS hR
  | no => exact h
/-- one part after another -/
theorem tR_seq {α' β' : Type} {R' : Zn → Hp → α' → β' → Prop} {fa : Env → M α} {env : Env} {g : α → M α'} {Q : β' → Hp → Prop} {K : β → Hp → Prop} (hS : RepS C ρ H (ro ++ w)) (hE : RepE C ρ H env σ)
    (h : AfterR C R' W σ ρ H ro (M.bind (fa env) g ro w) Q)
    (k : ∀ d w1 v ρ1 H1, Ext ρ ρ1 H H1 → RepS C ρ1 H1 (ro ++ w1) → R ρ1 H1 d v → AfterR C R' W σ ρ1 H1 ro (g d ro w1) Q → K v H1) : tR C R W fa σ H K := by
  refine ⟨ρ, env, ro, w, hS, hE, ?_⟩
  unfold M.bind at h
  cases e : fa env ro w with
  | ok d w1 =>
    rw [e] at h
    exact fun v ρ1 H1 x s r => k d w1 v ρ1 H1 x s r (AfterR.ext x h)
  | exn c ns xs w1 =>
    rw [e] at h
    exact h
  | no =>
    rw [e] at h
    exact h
end

abbrev EF := Env → M D
abbrev RB : Zn → Hp → Bool → Bool → Prop := fun _ _ a b => a = b
abbrev tE (C : Cfg) (W : WX) (f : EF) : TE := tR C (Rep C) W f
abbrev tA (C : Cfg) (W : WX) (f : Env → M (List D)) : TA := tR C (Reps C) W f
abbrev tT (C : Cfg) (W : WX) (f : Env → M Bool) : TT := tR C RB W f

theorem pe_imp {X : Cx} {e : Expr} {t t' : TE} (h : PE X e t) (i : ∀ σ H Q, t' σ H Q → t σ H Q) : PE X e t' := ⟨fun pins s σ H Q I q => h.run pins s σ H Q I (i σ H Q q)⟩
theorem pt_imp {X : Cx} {e : Expr} {t t' : TT} (h : PT X e t) (i : ∀ σ H Q, t' σ H Q → t σ H Q) : PT X e t' := ⟨fun pins s σ H Q I q => h.run pins s σ H Q I (i σ H Q q)⟩
theorem pa_imp {X : Cx} {e : List Expr} {t t' : TA} (h : PA X e t) (i : ∀ σ H Q, t' σ H Q → t σ H Q) : PA X e t' := ⟨fun pos pins s σ H Q I q => h.run pos pins s σ H Q I (i σ H Q q)⟩

end Fx
namespace Fx
open PySem PySem.Spec L2

/-! ### the state behind a step -/
section
variable {C : Cfg} {ρ : Zn} {H H' : Hp} {w : List D}
theorem RepO.has {d : D} {a : Addr} (h : RepO C ρ H d a) : ∃ o, H a = some o := by
  cases d with
  | lst ds => obtain ⟨vs, e, _⟩ := h; exact ⟨_, e⟩
  | dic ks ds => obtain ⟨vs, e, _⟩ := h; exact ⟨_, e⟩
  | dct ks ds => obtain ⟨es, ep, as, vs, e, _⟩ := h; exact ⟨_, e⟩
  | ins c ns ds => obtain ⟨A, dx, fs, _, e, _⟩ := h; exact ⟨_, e⟩
  | _ => exact (show False from h).elim
theorem RepS.has (hS : RepS C ρ H w) {a : Addr} (ha : a ∈ ρ.r) : ∃ o, H a = some o := by
  obtain ⟨i, hi, rfl⟩ := List.mem_iff_getElem.mp ha
  have hw : i < w.length := by rw [← hS.len]; exact hi
  exact (hS.obj i _ _ (List.getElem?_eq_getElem hi) (List.getElem?_eq_getElem hw)).has
theorem RepS.fresh (hS : RepS C ρ H w) {p : Addr} (hp : H p = none) : ρ.Out p := by
  refine ⟨fun h => ?_, fun h => ?_⟩
  · obtain ⟨o, e⟩ := hS.has h
    rw [hp] at e
    cases e
  · obtain ⟨o, e⟩ := (hS.hid p h).2
    rw [hp] at e
    cases e
theorem RepO.same {d : D} {a : Addr} {ρ' : Zn} (x : Ext ρ ρ' H H') (e : H' a = H a) (h : RepO C ρ H d a) : RepO C ρ' H' d a := by
  cases d with
  | lst ds => obtain ⟨vs, q, r⟩ := h; exact ⟨vs, e.trans q, Reps.ext x ds r⟩
  | dic ks ds => obtain ⟨vs, q, k, r⟩ := h; exact ⟨vs, e.trans q, k, Reps.ext x ds r⟩
  | dct ks ds => obtain ⟨es, ep, as, vs, q, en, nd, rk, r⟩ := h; exact ⟨es, ep, as, vs, e.trans q, en, nd, Reps.ext x ks rk, Reps.ext x ds r⟩
  | ins c ns ds => obtain ⟨A, dx, fs, m, q, k, r⟩ := h; exact ⟨A, dx, fs, m, e.trans q, k, Reps.ext x ds r⟩
  | _ => exact (show False from h).elim
theorem RepS.same (hS : RepS C ρ H w) (x : Ext ρ ρ H H') (e : ∀ a ∈ ρ.r, H' a = H a) : RepS C ρ H' w :=
  ⟨hS.len, hS.nd, fun i a d h1 h2 => RepO.same x (e a (List.mem_of_getElem? h1)) (hS.obj i a d h1 h2), fun a ha => ⟨(hS.hid a ha).1, by rw [x.same a ha]; exact (hS.hid a ha).2⟩⟩
/-- a new thing that stands still -/
theorem ext_new (hS : RepS C ρ H w) {p : Addr} {o : HO} (hp : H p = none) : Ext ρ ρ H (upd H p o) :=
  ⟨⟨[], by simp⟩, rfl, fun a u e n => ⟨by rw [upd_ne (ne_of_none e hp)]; exact e, n⟩, fun a ha => upd_ne fun e => (hS.fresh hp).2 (e ▸ ha)⟩
theorem reps_new (hS : RepS C ρ H w) {p : Addr} {o : HO} (hp : H p = none) : RepS C ρ (upd H p o) w :=
  hS.same (ext_new hS hp) fun a ha => upd_ne fun e => (hS.fresh hp).1 (e ▸ ha)
/-- a new thing that may change -/
abbrev Zn.more (ρ : Zn) (p : Addr) : Zn := ⟨ρ.r ++ [p], ρ.h⟩
theorem ext_mut (hS : RepS C ρ H w) {p : Addr} {o : HO} (hp : H p = none) : Ext ρ (ρ.more p) H (upd H p o) :=
  ⟨⟨[p], rfl⟩, rfl, fun a u e n => ⟨by rw [upd_ne (ne_of_none e hp)]; exact e, by
    show a ∉ ρ.r ++ [p]
    rw [List.mem_append, not_or]
    exact ⟨n.1, fun z => ne_of_none e hp (List.mem_singleton.mp z)⟩, n.2⟩, fun a ha => upd_ne fun e => (hS.fresh hp).2 (e ▸ ha)⟩
theorem reps_mut (hS : RepS C ρ H w) {p : Addr} {o : HO} {d : D} (hp : H p = none) (h : RepO C (ρ.more p) (upd H p o) d p) : RepS C (ρ.more p) (upd H p o) (w ++ [d]) := by
  refine ⟨by simp [hS.len], ?_, fun i a d' h1 h2 => ?_, fun a ha => ⟨?_, ?_⟩⟩
  · show (ρ.r ++ [p]).Nodup
    rw [List.nodup_append]
    refine ⟨hS.nd, by simp, fun a ha b hb e => ?_⟩
    rw [List.mem_singleton] at hb
    exact (hS.fresh hp).1 (hb ▸ e ▸ ha)
  · replace h1 : (ρ.r ++ [p])[i]? = some a := h1
    by_cases hi : i < ρ.r.length
    · rw [List.getElem?_append_left hi] at h1
      rw [List.getElem?_append_left (by rw [← hS.len]; exact hi)] at h2
      exact RepO.same (ext_mut hS hp) (upd_ne fun e => (hS.fresh hp).1 (e ▸ List.mem_of_getElem? h1)) (hS.obj i a d' h1 h2)
    · have hl := (List.getElem?_eq_some_iff.mp h1).1
      rw [List.length_append, List.length_singleton] at hl
      have e : i = ρ.r.length := by omega
      subst e
      rw [List.getElem?_append_right (Nat.le_refl _), Nat.sub_self] at h1
      rw [List.getElem?_append_right (by rw [hS.len]; exact Nat.le_refl _), hS.len, Nat.sub_self] at h2
      simp only [List.getElem?_cons_zero, Option.some.injEq] at h1 h2
      subst h1
      subst h2
      exact h
  · show a ∉ ρ.r ++ [p]
    rw [List.mem_append, not_or]
    exact ⟨(hS.hid a ha).1, fun z => (hS.fresh hp).2 (List.mem_singleton.mp z ▸ ha)⟩
  · obtain ⟨u, e⟩ := (hS.hid a ha).2
    exact ⟨u, by rw [upd_ne (ne_of_none e hp)]; exact e⟩
/-- the n-th object is written -/
theorem ext_put (hS : RepS C ρ H w) {n : Nat} {a : Addr} {o : HO} (ha : ρ.r[n]? = some a) : Ext ρ ρ H (upd H a o) :=
  ⟨⟨[], by simp⟩, rfl, fun b u e k => ⟨by rw [upd_ne fun z => k.1 (by rw [z]; exact List.mem_of_getElem? ha)]; exact e, k⟩,
    fun b hb => upd_ne fun z => (hS.hid b hb).1 (by rw [z]; exact List.mem_of_getElem? ha)⟩
theorem reps_put (hS : RepS C ρ H w) {n : Nat} {a : Addr} {o : HO} {d : D} (ha : ρ.r[n]? = some a) (h : RepO C ρ (upd H a o) d a) : RepS C ρ (upd H a o) (w.set n d) := by
  refine ⟨by simp [hS.len], hS.nd, fun i b d' h1 h2 => ?_, fun b hb => ⟨(hS.hid b hb).1, by rw [(ext_put (o := o) hS ha).same b hb]; exact (hS.hid b hb).2⟩⟩
  by_cases hi : i = n
  · subst hi
    rw [ha] at h1
    cases h1
    have hl := (List.getElem?_eq_some_iff.mp h2).1
    rw [List.length_set] at hl
    rw [List.getElem?_set_self hl] at h2
    cases h2
    exact h
  · rw [List.getElem?_set_ne (Ne.symm hi)] at h2
    have hb : b ≠ a := by
      intro z
      subst z
      have h1' := List.getElem?_eq_some_iff.mp h1
      have h3' := List.getElem?_eq_some_iff.mp ha
      exact hi ((List.getElem_inj hS.nd).mp (h1'.2.trans h3'.2.symm))
    exact RepO.same (ext_put hS ha) (upd_ne hb) (hS.obj i b d' h1 h2)
end

section
variable {C : Cfg} {α : Type} {W : WX} {σ : St} {ρ : Zn} {H : Hp} {ro w : List D} {Q : VK}
theorem ok_same {d : D} {v : V} (hS : RepS C ρ H (ro ++ w)) (r : Rep C ρ H d v) (h : AfterR C (Rep C) W σ ρ H ro (.ok d w) Q) : Q v H := h v ρ H .refl hS r
theorem ok_int {i : Int} (hS : RepS C ρ H (ro ++ w)) (h : AfterR C (Rep C) W σ ρ H ro (.ok (.int i) w) Q) : Q (.int i) H := ok_same hS (d := .int i) (v := .int i) rfl h
theorem ok_bl {i : Bool} (hS : RepS C ρ H (ro ++ w)) (h : AfterR C (Rep C) W σ ρ H ro (.ok (.bl i) w) Q) : Q (.bl i) H := ok_same hS (d := .bl i) (v := .bl i) rfl h
theorem ok_str {i : Str} (hS : RepS C ρ H (ro ++ w)) (h : AfterR C (Rep C) W σ ρ H ro (.ok (.str i) w) Q) : Q (.str i) H := ok_same hS (d := .str i) (v := .str i) rfl h
theorem ok_non (hS : RepS C ρ H (ro ++ w)) (h : AfterR C (Rep C) W σ ρ H ro (.ok .non w) Q) : Q .non H := ok_same hS (d := .non) (v := .non) rfl h
theorem ok_tup {ds : List D} {vs : List V} (hS : RepS C ρ H (ro ++ w)) (r : Reps C ρ H ds vs) (h : AfterR C (Rep C) W σ ρ H ro (.ok (.tup ds) w) Q) : ∀ p, H p = none → Q (.ref p) (upd H p (.tup vs)) := fun p hp =>
  h _ ρ _ (ext_new hS hp) (reps_new hS hp) ⟨p, vs, rfl, .inl ⟨hS.fresh hp, .inl upd_same⟩, Reps.ext (ext_new hS hp) ds r⟩
theorem ok_lst {ds : List D} {vs : List V} (hS : RepS C ρ H (ro ++ w)) (r : Reps C ρ H ds vs) (h : AfterR C (Rep C) W σ ρ H ro (.ok (.lst ds) w) Q) : ∀ p, H p = none → Q (.ref p) (upd H p (.lst vs)) := fun p hp =>
  h _ ρ _ (ext_new hS hp) (reps_new hS hp) ⟨p, vs, rfl, .inl ⟨hS.fresh hp, .inl upd_same⟩, Reps.ext (ext_new hS hp) ds r⟩
theorem ok_newL {ds : List D} {vs : List V} (hS : RepS C ρ H (ro ++ w)) (r : Reps C ρ H ds vs) (h : AfterR C (Rep C) W σ ρ H ro (.ok (.ref (ro ++ w).length) (w ++ [.lst ds])) Q) : ∀ p, H p = none → Q (.ref p) (upd H p (.lst vs)) := fun p hp =>
  h _ _ _ (ext_mut hS hp) (by rw [← List.append_assoc]; exact reps_mut hS hp ⟨vs, upd_same, Reps.ext (ext_mut hS hp) ds r⟩)
    ⟨p, by show (ρ.r ++ [p])[_]? = _; rw [← hS.len, List.getElem?_append_right (Nat.le_refl _), Nat.sub_self]; rfl, rfl⟩
theorem ok_put {n : Nat} {a : Addr} {o : HO} {d e : D} {v : V} (hS : RepS C ρ H (ro ++ w)) (hn : ¬ n < ro.length) (ha : ρ.r[n]? = some a) (hO : ∀ H', Ext ρ ρ H H' → H' a = some o → RepO C ρ H' d a) (r : Rep C ρ H e v)
    (h : AfterR C (Rep C) W σ ρ H ro (.ok e (w.set (n - ro.length) d)) Q) : Q v (upd H a o) := by
  refine h v ρ _ (ext_put hS ha) ?_ (Rep.ext (ext_put hS ha) e r)
  have z := reps_put (o := o) (d := d) hS ha (hO _ (ext_put hS ha) upd_same)
  rw [List.set_append_right _ _ (by omega)] at z
  exact z
end

/-! ### what is seen of a value: an object that may change, as it stands now -/
def see (ro w : List D) : D → D
  | .ref n => ((ro ++ w)[n]?).getD .non
  | d => d
def M.see (d : D) : M D := fun ro w => .ok (Fx.see ro w d) w
def Seen (C : Cfg) (ρ : Zn) (H : Hp) (d : D) (v : V) : Prop := Rep C ρ H d v ∨ ∃ a, v = .ref a ∧ RepO C ρ H d a
section
variable {C : Cfg} {ρ : Zn} {H : Hp} {ro w : List D}
theorem seen_of {d : D} {v : V} (hS : RepS C ρ H (ro ++ w)) (r : Rep C ρ H d v) : Seen C ρ H (see ro w d) v := by
  cases d with
  | ref n =>
    obtain ⟨a, e, rfl⟩ := r
    have hn := (List.getElem?_eq_some_iff.mp e).1
    have hw : n < (ro ++ w).length := by rw [← hS.len]; exact hn
    have z : see ro w (.ref n) = (ro ++ w)[n] := by
      show ((ro ++ w)[n]?).getD .non = _
      rw [List.getElem?_eq_getElem hw]
      rfl
    rw [z]
    exact .inr ⟨a, rfl, hS.obj n a _ e (List.getElem?_eq_getElem hw)⟩
  | _ => exact .inl r
theorem Still.rd {a : Addr} {u : HO} (h : Still ρ H a u) : Rd H a u := h.2
theorem Seen.lst {ds : List D} {v : V} (h : Seen C ρ H (.lst ds) v) : ∃ a vs, v = .ref a ∧ SqL C.K H a vs ∧ Reps C ρ H ds vs := by
  rcases h with ⟨a, vs, e, h | h, r⟩ | ⟨a, e, vs, h, r⟩
  · exact ⟨a, vs, e, .inl h.2, r⟩
  · exact ⟨a, vs, e, .inr h, r⟩
  · exact ⟨a, vs, e, .inl (.inl h), r⟩
theorem Seen.tup {ds : List D} {v : V} (h : Seen C ρ H (.tup ds) v) : ∃ a vs, v = .ref a ∧ SqT C.K H a vs ∧ Reps C ρ H ds vs := by
  rcases h with ⟨a, vs, e, h | h, r⟩ | ⟨a, e, h⟩
  · exact ⟨a, vs, e, .inl h.2, r⟩
  · exact ⟨a, vs, e, .inr h, r⟩
  · exact (show False from h).elim
theorem Seen.tupR {ds : List D} {v : V} (h : Seen C ρ H (.tup ds) v) : Rep C ρ H (.tup ds) v := by
  rcases h with h | ⟨a, e, h⟩
  · exact h
  · exact (show False from h).elim
theorem Seen.int {i : Int} {v : V} (h : Seen C ρ H (.int i) v) : v = .int i := by
  rcases h with h | ⟨a, e, h⟩
  · exact h
  · exact (show False from h).elim
theorem Seen.str {i : Str} {v : V} (h : Seen C ρ H (.str i) v) : v = .str i := by
  rcases h with h | ⟨a, e, h⟩
  · exact h
  · exact (show False from h).elim
theorem Seen.bl {i : Bool} {v : V} (h : Seen C ρ H (.bl i) v) : v = .bl i := by
  rcases h with h | ⟨a, e, h⟩
  · exact h
  · exact (show False from h).elim
theorem Seen.non {v : V} (h : Seen C ρ H .non v) : v = .non := by
  rcases h with h | ⟨a, e, h⟩
  · exact h
  · exact (show False from h).elim
theorem Seen.dic {ks ds : List D} {v : V} (h : Seen C ρ H (.dic ks ds) v) : ∃ a kvs, v = .ref a ∧ Rd H a (.dK kvs) ∧ ks.map keyOf = kvs.map (fun p => some p.1) ∧ Reps C ρ H ds (kvs.map (·.2)) := by
  rcases h with ⟨a, kvs, e, h, k, r⟩ | ⟨a, e, kvs, h, k, r⟩
  · exact ⟨a, kvs, e, h.2, k, r⟩
  · exact ⟨a, kvs, e, .inl h, k, r⟩
end

/-! ### two values in, one out -/
/-- r is met by what g computes from the things seen -/
def Ok2 (C : Cfg) (r : R2) (g : D → D → M D) : Prop :=
  ∀ (W : WX) (σ : St) (ρ : Zn) (H : Hp) (ro w : List D) (d e : D) (x y : V) (Q : VK), RepS C ρ H (ro ++ w) → Seen C ρ H d x → Seen C ρ H e y → AfterR C (Rep C) W σ ρ H ro (g d e ro w) Q → r x y H Q
def cBin (g : D → D → M D) (fa fb : EF) : EF := fun env => M.bind (fa env) fun d => M.bind (fb env) fun e => M.bind (M.see d) fun d' => M.bind (M.see e) fun e' => g d' e'
theorem tE_bin {C : Cfg} {W : WX} {r : R2} {g : D → D → M D} {fa fb : EF} (h : Ok2 C r g) {σ : St} {H : Hp} {Q : VK} (q : tE C W (cBin g fa fb) σ H Q) : tOp r (tE C W fa) (tE C W fb) σ H Q := by
  obtain ⟨ρ, env, ro, w, hS, hE, q⟩ := q
  refine tR_seq hS hE q fun d w1 v ρ1 H1 x1 s1 r1 q1 => ?_
  refine tR_seq s1 (hE.ext x1) q1 fun e w2 u ρ2 H2 x2 s2 r2 q2 => ?_
  exact h W σ ρ2 H2 ro w2 _ _ v u Q s2 (seen_of s2 (Rep.ext x2 d r1)) (seen_of s2 r2) q2

section
variable {X : Cx} {C : Cfg} {W : WX} {a b : Expr} {fa fb : EF} {pos : Pos}
theorem pf_op {op : Operator} {r : R2} {g : D → D → M D} (ho : OpR X (binaryOp op) r) (hr : Ok2 C r g) (ha : PE X a (tE C W fa)) (hb : PE X b (tE C W fb)) : PE X (.BinOp a op b pos) (tE C W (cBin g fa fb)) :=
  pe_imp (pe_op ho ha hb) fun _ _ _ q => tE_bin hr q
theorem pf_cmp {op : CmpOp} {r : R2} {g : D → D → M D} (ho : OpR X (compareOp op) r) (hr : Ok2 C r g) (ha : PE X a (tE C W fa)) (hb : PE X b (tE C W fb)) (hm : behindInMarks op b = false) : PE X (.Compare a [op] [b] pos) (tE C W (cBin g fa fb)) :=
  pe_imp (pe_cmpR ho ha hb hm) fun _ _ _ q => tE_bin hr q
end

/-! ### a value as a test -/
def M.bool (d : D) : M Bool := match d with
  | .bl b => M.pure b
  | _ => M.no
def cTest (f : EF) : Env → M Bool := fun env => M.bind (f env) M.bool
theorem tT_of {C : Cfg} {W : WX} {f : EF} {σ : St} {H : Hp} {Q : Bool → Hp → Prop} (q : tT C W (cTest f) σ H Q) : tTest (tE C W f) σ H Q := by
  obtain ⟨ρ, env, ro, w, hS, hE, q⟩ := q
  refine tR_seq hS hE q fun d w1 v ρ1 H1 x1 s1 r1 q1 => ?_
  cases d with
  | bl b =>
    have e : v = .bl b := r1
    subst e
    exact ⟨b, rfl, q1 b ρ1 H1 .refl s1 rfl⟩
  | _ => exact (show False from q1).elim

end Fx
namespace Fx
open PySem PySem.Spec L2

/-! ### data that can be compared -/
mutual
def D.py : D → PyData
  | .bl b => .bool b
  | .int i => .int i
  | .str x => .str x
  | .tup ds => .tuple (D.pys ds)
  | .lst ds => .list (D.pys ds)
  | _ => .none
def D.pys : List D → List PyData
  | [] => []
  | d :: ds => d.py :: D.pys ds
end
mutual
def D.flat : D → Bool
  | .non => true
  | .bl _ => true
  | .int _ => true
  | .str _ => true
  | .tup ds => D.flats ds
  | .lst ds => D.flats ds
  | _ => false
def D.flats : List D → Bool
  | [] => true
  | d :: ds => d.flat && D.flats ds
end
def D.cmp (d : D) : Bool := d.flat && SeqAt.shaped d.py
section
variable {C : Cfg} {ρ : Zn} {H : Hp}
theorem Still.sqL {a : Addr} {vs : List V} (h : Still ρ H a (.lst vs) ∨ KL C.K a vs) : SqL C.K H a vs := h.elim (fun h => .inl h.2) .inr
theorem Still.sqT {a : Addr} {vs : List V} (h : Still ρ H a (.tup vs) ∨ KT C.K a vs) : SqT C.K H a vs := h.elim (fun h => .inl h.2) .inr
mutual
theorem Rep.dp : ∀ (d : D) {v : V}, d.flat = true → Rep C ρ H d v → Dp C.K H v d.py
  | .non, v, _, h => by cases (show v = .non from h); exact .non
  | .bl b, v, _, h => by cases (show v = .bl b from h); exact .bl b
  | .int i, v, _, h => by cases (show v = .int i from h); exact .int i
  | .str x, v, _, h => by cases (show v = .str x from h); exact .str x
  | .tup ds, v, f, ⟨a, vs, e, h, r⟩ => by
    subst e
    exact .tup (Still.sqT h) (Reps.dp ds (by simpa [D.flat] using f) r)
  | .lst ds, v, f, ⟨a, vs, e, h, r⟩ => by
    subst e
    exact .lst (Still.sqL h) (Reps.dp ds (by simpa [D.flat] using f) r)
  | .dic _ _, _, f, _ => by simp [D.flat] at f
  | .dct _ _, _, f, _ => by simp [D.flat] at f
  | .ins _ _ _, _, f, _ => by simp [D.flat] at f
  | .fn _, _, f, _ => by simp [D.flat] at f
  | .ref _, _, f, _ => by simp [D.flat] at f
theorem Reps.dp : ∀ (ds : List D) {vs : List V}, D.flats ds = true → Reps C ρ H ds vs → DpAll C.K H vs (D.pys ds)
  | [], vs, _, h => by
    have e : vs = [] := h
    subst e
    exact .nil
  | d :: ds, vs, f, ⟨v, r, e, h1, h2⟩ => by
    subst e
    have f' : d.flat = true ∧ D.flats ds = true := by simpa [D.flats] using f
    exact .cons (Rep.dp d f'.1 h1) (Reps.dp ds f'.2 h2)
end
theorem Seen.dp {d : D} {v : V} (f : d.flat = true) (h : Seen C ρ H d v) : Dp C.K H v d.py := by
  rcases h with h | ⟨a, e, h⟩
  · exact Rep.dp d f h
  · subst e
    cases d with
    | lst ds =>
      obtain ⟨vs, q, r⟩ := h
      exact .lst (.inl (.inl q)) (Reps.dp ds (by simpa [D.flat] using f) r)
    | dic ks ds => simp [D.flat] at f
    | dct ks ds => simp [D.flat] at f
    | ins c ns ds => simp [D.flat] at f
    | _ => exact (show False from h).elim
end

/-! ### the operators -/
def gAdd (x y : D) : M D := match x, y with
  | .int i, .int j => M.pure (.int (i + j))
  | .str a, .str b => fun _ w => if a.length + b.length ≤ sizeLine then .ok (.str (a ++ b)) w else .no
  | .tup a, .tup b => fun _ w => if a.length + b.length ≤ sizeLine then .ok (.tup (a ++ b)) w else .no
  | .lst a, .lst b => fun _ w => if a.length + b.length ≤ sizeLine then .ok (.lst (a ++ b)) w else .no
  | _, _ => M.no
def gSub (x y : D) : M D := match x, y with
  | .int i, .int j => M.pure (.int (i - j))
  | _, _ => M.no
def gMul (x y : D) : M D := match x, y with
  | .int i, .int j => fun _ w => if i.natAbs < 2 ^ 64 ∨ j.natAbs < 2 ^ 64 then .ok (.int (i * j)) w else .no
  | _, _ => M.no
def gDiv (x y : D) : M D := match x, y with
  | .int i, .int j => fun _ w => if 0 < j ∧ j.natAbs < 1073741824 then .ok (.int (i / j)) w else .no
  | _, _ => M.no
def gMod (x y : D) : M D := match x, y with
  | .int i, .int j => fun _ w => if 0 < j then .ok (.int (i % j)) w else .no
  | _, _ => M.no
def gLt (x y : D) : M D := match x, y with
  | .int i, .int j => M.pure (.bl (decide (i < j)))
  | _, _ => M.no
def gLe (x y : D) : M D := match x, y with
  | .int i, .int j => M.pure (.bl (decide (i ≤ j)))
  | _, _ => M.no
def gGt (x y : D) : M D := match x, y with
  | .int i, .int j => M.pure (.bl (decide (j < i)))
  | _, _ => M.no
def gGe (x y : D) : M D := match x, y with
  | .int i, .int j => M.pure (.bl (decide (j ≤ i)))
  | _, _ => M.no
def gEq (x y : D) : M D := fun _ w => if x.cmp && y.cmp then .ok (.bl (PyData.eqv x.py y.py)) w else .no
def gNe (x y : D) : M D := fun _ w => if x.cmp && y.cmp then .ok (.bl (!PyData.eqv x.py y.py)) w else .no
def D.isNon : D → Bool
  | .non => true
  | _ => false
def gIsN (x y : D) : M D := match y with
  | .non => M.pure (.bl x.isNon)
  | _ => M.no
def gNotN (x y : D) : M D := match y with
  | .non => M.pure (.bl (!x.isNon))
  | _ => M.no


abbrev cfg (X : Cx) : Cfg := ⟨X.K, X.mg, X.w⟩
section
variable {X : Cx} {pins : List (Addr × Obj)} {σ : L2.St} {H : Hp} {s : Shared}
/-- lists joined -/
def rCatL (K : PySem.W.Frag) : R2 := fun x y H Q => ∃ l b xs zs, x = .ref l ∧ y = .ref b ∧ SqL K H l xs ∧ SqL K H b zs ∧ xs.length + zs.length ≤ sizeLine ∧ ∀ p, H p = none → Q (.ref p) (upd H p (.lst (xs ++ zs)))
theorem op_catL : OpR X (binaryOp .Add) (rCatL X.K) := by
  intro pins s σ H x y v u Q I rx ry h
  obtain ⟨l, b, xs, zs, rfl, rfl, hH, hB, hz, q⟩ := h
  cases rx
  cases ry
  obtain ⟨its, r, pl, _⟩ := I.list hH
  obtain ⟨its2, r2, pl2, _⟩ := I.list hB
  obtain ⟨⟨cls, dd, data, sl⟩, ho, hc, n, hd⟩ := pl.isList
  obtain ⟨⟨cls2, dd2, data2, sl2⟩, ho2, hc2, n2, hd2⟩ := pl2.isList
  simp only at hc hd hc2 hd2
  subst hc hd hc2 hd2
  have h1 := r.length
  have h2 := r2.length
  have ea : its.toArray ++ its2.toArray = (its ++ its2).toArray := by simp
  refine concat_meets ⟨_, ho, rfl⟩ ⟨_, ho2, rfl⟩ noFill_list_add seq_list_add PySem.F.slot_list_add PySem.F.entry_list_add (PySem.F.args_list_add_2 _ _) (PyProof.Rows.list_addW l b its.toArray its2.toArray n n2 dd dd2 sl sl2 (by rw [List.size_toArray, List.size_toArray]; omega)) ⟨ho, ho2, ?_⟩
  rw [ea]
  exact ⟨.ref _, _, I.lnew (t' := s.toks) (r.append r2) (by rw [List.length_append]; omega), rfl, q _ I.fresh⟩

theorem opf_add : OpR X (binaryOp .Add) (fun x y H Q => (∃ i j, x = .int i ∧ y = .int j ∧ Q (.int (i + j)) H) ∨ (∃ i j, x = .str i ∧ y = .str j ∧ i.length + j.length ≤ sizeLine ∧ Q (.str (i ++ j)) H) ∨ rCatA X.K x y H Q ∨ rCatL X.K x y H Q) :=
  op_add.or (op_add_str.or (op_catA.or op_catL))
end

section
variable {C : Cfg}
theorem ok2_add : Ok2 C (fun x y H Q => (∃ i j, x = .int i ∧ y = .int j ∧ Q (.int (i + j)) H) ∨ (∃ i j, x = .str i ∧ y = .str j ∧ i.length + j.length ≤ sizeLine ∧ Q (.str (i ++ j)) H) ∨ rCatA C.K x y H Q ∨ rCatL C.K x y H Q) gAdd := by
  intro W σ ρ H ro w d e x y Q hS hd he q
  cases d with
  | int i =>
    cases e with
    | int j => exact .inl ⟨i, j, hd.int, he.int, ok_int hS q⟩
    | _ => exact (show False from q).elim
  | str a =>
    cases e with
    | str b =>
      unfold gAdd at q
      by_cases c : a.length + b.length ≤ sizeLine
      · simp only [if_pos c] at q
        exact .inr (.inl ⟨a, b, hd.str, he.str, c, ok_str hS q⟩)
      · simp only [if_neg c] at q
        exact (show False from q).elim
    | _ => exact (show False from q).elim
  | tup a =>
    cases e with
    | tup b =>
      unfold gAdd at q
      by_cases c : a.length + b.length ≤ sizeLine
      · simp only [if_pos c] at q
        obtain ⟨l, vs, rfl, h1, r1⟩ := hd.tup
        obtain ⟨m, us, rfl, h2, r2⟩ := he.tup
        refine .inr (.inr (.inl ⟨l, m, vs, us, rfl, rfl, h1, h2, by rw [← r1.len, ← r2.len]; exact c, fun z => ?_, fun _ z => ?_, fun _ _ => ok_tup hS (r1.append r2) q⟩))
        · have ea : a = [] := by
            cases a with
            | nil => rfl
            | cons _ _ =>
              have := r1.len
              rw [z] at this
              simp at this
          subst ea
          exact ok_same hS he.tupR q
        · have eb : b = [] := by
            cases b with
            | nil => rfl
            | cons _ _ =>
              have := r2.len
              rw [z] at this
              simp at this
          subst eb
          rw [List.append_nil] at q
          exact ok_same hS hd.tupR q
      · simp only [if_neg c] at q
        exact (show False from q).elim
    | _ => exact (show False from q).elim
  | lst a =>
    cases e with
    | lst b =>
      unfold gAdd at q
      by_cases c : a.length + b.length ≤ sizeLine
      · simp only [if_pos c] at q
        obtain ⟨l, vs, rfl, h1, r1⟩ := hd.lst
        obtain ⟨m, us, rfl, h2, r2⟩ := he.lst
        exact .inr (.inr (.inr ⟨l, m, vs, us, rfl, rfl, h1, h2, by rw [← r1.len, ← r2.len]; exact c, ok_lst hS (r1.append r2) q⟩))
      · simp only [if_neg c] at q
        exact (show False from q).elim
    | _ => exact (show False from q).elim
  | _ => exact (show False from q).elim

/-- ints in -/
theorem ok2_I0 {f : Int → Int → V} {g : D → D → M D} {k : Int → Int → D} (hg : ∀ d e, (∃ i j, d = .int i ∧ e = .int j ∧ g d e = M.pure (k i j)) ∨ g d e = M.no) (hk : ∀ i j ρ H, Rep C ρ H (k i j) (f i j)) : Ok2 C (rI0 f) g := by
  intro W σ ρ H ro w d e x y Q hS hd he q
  rcases hg d e with ⟨i, j, rfl, rfl, z⟩ | z
  · rw [z] at q
    exact ⟨i, j, hd.int, he.int, ok_same hS (hk i j ρ H) q⟩
  · rw [z] at q
    exact (show False from q).elim
theorem ok2_I {c : Int → Int → Prop} {f : Int → Int → V} {g : D → D → M D} {k : Int → Int → D} (hg : ∀ d e, (∃ i j, d = .int i ∧ e = .int j ∧ ((c i j ∧ g d e = M.pure (k i j)) ∨ g d e = M.no)) ∨ g d e = M.no) (hk : ∀ i j ρ H, Rep C ρ H (k i j) (f i j)) : Ok2 C (rI c f) g := by
  intro W σ ρ H ro w d e x y Q hS hd he q
  rcases hg d e with ⟨i, j, rfl, rfl, ⟨hc, z⟩ | z⟩ | z
  · rw [z] at q
    exact ⟨i, j, hd.int, he.int, hc, ok_same hS (hk i j ρ H) q⟩
  · rw [z] at q
    exact (show False from q).elim
  · rw [z] at q
    exact (show False from q).elim
theorem ok2_sub : Ok2 C (rI0 fun i j => .int (i - j)) gSub := ok2_I0 (k := fun i j => .int (i - j)) (fun d e => by cases d <;> cases e <;> first | exact .inr rfl | exact .inl ⟨_, _, rfl, rfl, rfl⟩) fun _ _ _ _ => rfl
theorem ok2_lt : Ok2 C (rI0 fun i j => .bl (decide (i < j))) gLt := ok2_I0 (k := fun i j => .bl (decide (i < j))) (fun d e => by cases d <;> cases e <;> first | exact .inr rfl | exact .inl ⟨_, _, rfl, rfl, rfl⟩) fun _ _ _ _ => rfl
theorem ok2_le : Ok2 C (rI0 fun i j => .bl (decide (i ≤ j))) gLe := ok2_I0 (k := fun i j => .bl (decide (i ≤ j))) (fun d e => by cases d <;> cases e <;> first | exact .inr rfl | exact .inl ⟨_, _, rfl, rfl, rfl⟩) fun _ _ _ _ => rfl
theorem ok2_gt : Ok2 C (rI0 fun i j => .bl (decide (j < i))) gGt := ok2_I0 (k := fun i j => .bl (decide (j < i))) (fun d e => by cases d <;> cases e <;> first | exact .inr rfl | exact .inl ⟨_, _, rfl, rfl, rfl⟩) fun _ _ _ _ => rfl
theorem ok2_ge : Ok2 C (rI0 fun i j => .bl (decide (j ≤ i))) gGe := ok2_I0 (k := fun i j => .bl (decide (j ≤ i))) (fun d e => by cases d <;> cases e <;> first | exact .inr rfl | exact .inl ⟨_, _, rfl, rfl, rfl⟩) fun _ _ _ _ => rfl
theorem ok2_mul : Ok2 C (rI CMul fun i j => .int (i * j)) gMul := ok2_I (k := fun i j => .int (i * j)) (fun d e => by
  cases d <;> cases e <;> first
    | exact .inr rfl
    | (rename_i i j
       by_cases c : i.natAbs < 2 ^ 64 ∨ j.natAbs < 2 ^ 64
       · exact .inl ⟨i, j, rfl, rfl, .inl ⟨by unfold CMul; omega, by funext ro w; unfold gMul M.pure; simp only [if_pos c]⟩⟩
       · exact .inl ⟨i, j, rfl, rfl, .inr (by funext ro w; unfold gMul M.no; simp only [if_neg c])⟩)) fun _ _ _ _ => rfl
theorem ok2_div : Ok2 C (rI CDiv fun i j => .int (i / j)) gDiv := ok2_I (k := fun i j => .int (i / j)) (fun d e => by
  cases d <;> cases e <;> first
    | exact .inr rfl
    | (rename_i i j
       by_cases c : 0 < j ∧ j.natAbs < 1073741824
       · exact .inl ⟨i, j, rfl, rfl, .inl ⟨by unfold CDiv; omega, by funext ro w; unfold gDiv M.pure; simp only [if_pos c]⟩⟩
       · exact .inl ⟨i, j, rfl, rfl, .inr (by funext ro w; unfold gDiv M.no; simp only [if_neg c])⟩)) fun _ _ _ _ => rfl
theorem ok2_mod : Ok2 C (rI (fun _ j => 0 < j) fun i j => .int (i % j)) gMod := ok2_I (k := fun i j => .int (i % j)) (fun d e => by
  cases d <;> cases e <;> first
    | exact .inr rfl
    | (rename_i i j
       by_cases c : 0 < j
       · exact .inl ⟨i, j, rfl, rfl, .inl ⟨c, by funext ro w; unfold gMod M.pure; simp only [if_pos c]⟩⟩
       · exact .inl ⟨i, j, rfl, rfl, .inr (by funext ro w; unfold gMod M.no; simp only [if_neg c])⟩)) fun _ _ _ _ => rfl
theorem ok2_eq : Ok2 C (rEqD C.K) gEq := by
  intro W σ ρ H ro w d e x y Q hS hd he q
  unfold gEq at q
  by_cases c : (d.cmp && e.cmp) = true
  · simp only [if_pos c] at q
    obtain ⟨c1, c2⟩ := Bool.and_eq_true_iff.mp c
    obtain ⟨f1, s1⟩ := Bool.and_eq_true_iff.mp c1
    obtain ⟨f2, s2⟩ := Bool.and_eq_true_iff.mp c2
    exact ⟨d.py, e.py, hd.dp f1, he.dp f2, s1, s2, ok_bl hS q⟩
  · simp only [if_neg c] at q
    exact (show False from q).elim
theorem ok2_ne : Ok2 C (rNeD C.K) gNe := by
  intro W σ ρ H ro w d e x y Q hS hd he q
  unfold gNe at q
  by_cases c : (d.cmp && e.cmp) = true
  · simp only [if_pos c] at q
    obtain ⟨c1, c2⟩ := Bool.and_eq_true_iff.mp c
    obtain ⟨f1, s1⟩ := Bool.and_eq_true_iff.mp c1
    obtain ⟨f2, s2⟩ := Bool.and_eq_true_iff.mp c2
    exact ⟨d.py, e.py, hd.dp f1, he.dp f2, s1, s2, ok_bl hS q⟩
  · simp only [if_neg c] at q
    exact (show False from q).elim
theorem Seen.isNon {ρ : Zn} {H : Hp} {d : D} {v : V} (h : Seen C ρ H d v) : decide (v = .non) = d.isNon := by
  have nr : ∀ a, decide (V.ref a = .non) = false := fun a => decide_eq_false fun z => nomatch z
  rcases h with h | ⟨a, rfl, h⟩
  · cases d with
    | non => rw [show v = .non from h]; rfl
    | bl b => rw [show v = .bl b from h]; rfl
    | int b => rw [show v = .int b from h]; rfl
    | str b => rw [show v = .str b from h]; rfl
    | tup ds => obtain ⟨a, vs, rfl, _⟩ := h; exact nr a
    | lst ds => obtain ⟨a, vs, rfl, _⟩ := h; exact nr a
    | dic ks ds => obtain ⟨a, vs, rfl, _⟩ := h; exact nr a
    | dct ks ds => obtain ⟨a, _, _, _, _, rfl, _⟩ := h; exact nr a
    | ins c ns ds => obtain ⟨a, _, _, _, rfl, _⟩ := h; exact nr a
    | fn x => obtain ⟨a, _, rfl⟩ := h; exact nr a
    | ref n => obtain ⟨a, _, rfl⟩ := h; exact nr a
  · rw [nr]
    cases d with
    | non => exact (show False from h).elim
    | _ => rfl
theorem ok2_isN : Ok2 C (fun x y H Q => y = .non ∧ Q (.bl (decide (x = .non))) H) gIsN := by
  intro W σ ρ H ro w d e x y Q hS hd he q
  cases e with
  | non =>
    refine ⟨he.non, ?_⟩
    rw [hd.isNon]
    exact ok_bl hS q
  | _ => exact (show False from q).elim
theorem ok2_notN : Ok2 C (fun x y H Q => y = .non ∧ Q (.bl (!decide (x = .non))) H) gNotN := by
  intro W σ ρ H ro w d e x y Q hS hd he q
  cases e with
  | non =>
    refine ⟨he.non, ?_⟩
    rw [hd.isNon]
    exact ok_bl hS q
  | _ => exact (show False from q).elim
end
end Fx
namespace Fx
open PySem PySem.Spec L2

section
variable {X : Cx} {C : Cfg} {W : WX} {pos p : Pos} {a b c e : Expr} {es : List Expr} {fa fb fc f : EF} {fs : Env → M (List D)}

/-! ### names, constants -/
def cVar (i : Nat) : EF := fun env _ w => match env[i]? with
  | some (some d) => .ok d w
  | _ => .no
theorem pf_var (i : Nat) {x : Str} (hN : X.N[i]? = some x := by rfl) (hv : Vis X.env.scope x := by first | exact Or.inl rfl | exact Or.inr (Or.inl rfl) | exact Or.inr (Or.inr rfl)) (hd : (x == ("__debug__" : Str)) = false := by decide)
    (hcd : (x == ("__classdict__" : Str)) = false := by decide) : PE X (.Name x pos) (tE C W (cVar i)) := pe_imp (pe_var hN hv hd hcd) fun σ H Q q => by
  obtain ⟨ρ, env, ro, w, hS, hE, q⟩ := q
  unfold cVar at q
  cases e : env[i]? with
  | none =>
    rw [e] at q
    exact (show False from q).elim
  | some o =>
    cases o with
    | none =>
      rw [e] at q
      exact (show False from q).elim
    | some d =>
      rw [e] at q
      obtain ⟨v, h1, h2⟩ := hE.at' i d e
      exact ⟨v, h1, ok_same hS h2 q⟩
def cK (d : D) : EF := fun _ => M.pure d
theorem pf_int {i j} : PE X (.Constant (.int i) j pos) (tE C W (cK (.int i))) := pe_imp pe_int fun σ H Q ⟨ρ, env, ro, w, hS, hE, q⟩ => ok_int hS q
theorem pf_bl {i j} : PE X (.Constant (.bool i) j pos) (tE C W (cK (.bl i))) := pe_imp pe_bl fun σ H Q ⟨ρ, env, ro, w, hS, hE, q⟩ => ok_bl hS q
theorem pf_str {i j} : PE X (.Constant (.str i) j pos) (tE C W (cK (.str i))) := pe_imp pe_str fun σ H Q ⟨ρ, env, ro, w, hS, hE, q⟩ => ok_str hS q
theorem pf_non {j} : PE X (.Constant .none j pos) (tE C W (cK .non)) := pe_imp pe_non fun σ H Q ⟨ρ, env, ro, w, hS, hE, q⟩ => ok_non hS q
/-- a constant of the module -/
def GK (C : Cfg) (x : Str) (d : D) : Prop := ∃ v u, C.mg x = some u ∧ RelV v u ∧ ∀ ρ H, Rep C ρ H d v
theorem pf_glob {x : Str} {d : D} (hg : Gl X x) (k : GK (cfg X) x d) (hd : (x == ("__debug__" : Str)) = false := by decide) : PE X (.Name x pos) (tE (cfg X) W (cK d)) := by
  obtain ⟨v, u, hm, r, h⟩ := k
  exact pe_imp (pe_glob hg hm r hd) fun σ H Q ⟨ρ, env, ro, w, hS, hE, q⟩ => ok_same hS (h ρ H) q

/-! ### arguments -/
def cArgs : List EF → Env → M (List D)
  | [] => fun _ => M.pure []
  | f :: r => fun env => M.bind (f env) fun d => M.bind (cArgs r env) fun ds => M.pure (d :: ds)
theorem cArgs_len : ∀ (fs : List EF) {env : Env} {ro w w' : List D} {ds : List D}, cArgs fs env ro w = .ok ds w' → ds.length = fs.length
  | [], env, ro, w, w', ds, h => by
    cases (show (Out.ok [] w : Out (List D)) = .ok ds w' from h)
    rfl
  | f :: r, env, ro, w, w', ds, h => by
    unfold cArgs M.bind at h
    cases e : f env ro w with
    | ok d w1 =>
      rw [e] at h
      cases e2 : cArgs r env ro w1 with
      | ok ds2 w2 =>
        simp only [e2] at h
        cases (show (Out.ok (d :: ds2) w2 : Out (List D)) = .ok ds w' from h)
        rw [List.length_cons, List.length_cons, cArgs_len r e2]
      | exn c ns xs w2 =>
        simp only [e2] at h
        cases h
      | no =>
        simp only [e2] at h
        cases h
    | exn c ns xs w2 =>
      rw [e] at h
      cases h
    | no =>
      rw [e] at h
      cases h
theorem pfa_nil : PA X [] (tA C W (cArgs [])) := pa_imp pa_nil fun σ H Q ⟨ρ, env, ro, w, hS, hE, q⟩ => q [] ρ H .refl hS rfl
theorem pfa_cons {gs : List EF} (ha : PE X e (tE C W f)) (hr : PA X es (tA C W (cArgs gs))) (hs : starEach (e :: es) X.env = (false, eval e X.env) :: starEach es X.env := by rfl) : PA X (e :: es) (tA C W (cArgs (f :: gs))) :=
  pa_imp (pa_cons ha hr hs) fun σ H Q ⟨ρ, env, ro, w, hS, hE, q⟩ => by
    refine tR_seq (g := fun d => M.bind (cArgs gs env) fun ds => M.pure (d :: ds)) hS hE q fun d w1 v ρ1 H1 x1 s1 r1 q1 => ?_
    refine tR_seq s1 (hE.ext x1) q1 fun ds w2 vs ρ2 H2 x2 s2 r2 q2 => ?_
    exact q2 (v :: vs) ρ2 H2 .refl s2 ⟨v, vs, rfl, Rep.ext x2 d r1, r2⟩

/-! ### built-ins by name -/
def OkL (C : Cfg) (r : List V → Hp → VK → Prop) (g : List D → M D) : Prop :=
  ∀ (W : WX) (σ : L2.St) (ρ : Zn) (H : Hp) (ro w : List D) (ds : List D) (xs : List V) (Q : VK), RepS C ρ H (ro ++ w) → Reps C ρ H ds xs → AfterR C (Rep C) W σ ρ H ro (g ds ro w) Q → r xs H Q
def Ok1 (C : Cfg) (r : List V → Hp → VK → Prop) (g : D → M D) : Prop :=
  ∀ (W : WX) (σ : L2.St) (ρ : Zn) (H : Hp) (ro w : List D) (d : D) (x : V) (Q : VK), RepS C ρ H (ro ++ w) → Seen C ρ H d x → AfterR C (Rep C) W σ ρ H ro (g d ro w) Q → r [x] H Q
def one (g : D → M D) : List D → M D
  | [d] => M.bind (M.see d) g
  | _ => M.no
theorem okL_one {r : List V → Hp → VK → Prop} {g : D → M D} (h : Ok1 C r g) : OkL C r (one g) := by
  intro W σ ρ H ro w ds xs Q hS hR q
  cases ds with
  | nil => exact (show False from q).elim
  | cons d ds =>
    cases ds with
    | cons _ _ => exact (show False from q).elim
    | nil =>
      obtain ⟨v, r', rfl, h1, h2⟩ := hR
      cases (show r' = [] from h2)
      exact h W σ ρ H ro w _ v Q hS (seen_of hS h1) q
def cCall (g : List D → M D) (fs : Env → M (List D)) : EF := fun env => M.bind (fs env) g
theorem tE_call {r : List V → Hp → VK → Prop} {g : List D → M D} (hr : OkL C r g) {σ : L2.St} {H : Hp} {Q : VK} (q : tE C W (cCall g fs) σ H Q) : tCB r (tA C W fs) σ H Q := by
  obtain ⟨ρ, env, ro, w, hS, hE, q⟩ := q
  exact tR_seq hS hE q fun ds w1 vs ρ1 H1 x1 s1 r1 q1 => hr W σ ρ1 H1 ro w1 ds vs Q s1 r1 q1
theorem pf_callB {id : String} {x : Str} {r : List V → Hp → VK → Prop} {g : List D → M D} (hc : CallR X (.builtin id) r) (hr : OkL C r g) (hg : Gl X x) (hm : X.mg x = none) (hv : bootBuiltins x = some (.builtin id)) (ha : PA X (e :: es) (tA C W fs))
    (hn : x ≠ "__name__" := by decide) (hdb : (x == ("__debug__" : Str)) = false := by decide) (he : starEach (e :: es) X.env = (false, eval e X.env) :: starEach es X.env := by rfl) (hpl : (backTo pos (starEach es X.env)).any (·.1) = false := by rfl) :
    PE X (.Call (.Name x p) (e :: es) [] pos) (tE C W (cCall g fs)) := pe_imp (pe_callB hc hg hm hv ha hn hdb he hpl) fun _ _ _ q => tE_call hr q
theorem pf_callTy {T : String} {x : Str} {r : List V → Hp → VK → Prop} {g : List D → M D} (hc : CallR X (.type T) r) (hr : OkL C r g) (hg : Gl X x) (hm : X.mg x = none) (hv : bootBuiltins x = some (.type T)) (ha : PA X (e :: es) (tA C W fs))
    (hn : x ≠ "__name__" := by decide) (hdb : (x == ("__debug__" : Str)) = false := by decide) (he : starEach (e :: es) X.env = (false, eval e X.env) :: starEach es X.env := by rfl) (hpl : (backTo pos (starEach es X.env)).any (·.1) = false := by rfl) :
    PE X (.Call (.Name x p) (e :: es) [] pos) (tE C W (cCall g fs)) := pe_imp (pe_callTy hc hg hm hv ha hn hdb he hpl) fun _ _ _ q => tE_call hr q

def rLen (K : PySem.W.Frag) : List V → Hp → VK → Prop := fun xs H Q => (∃ p ys, xs = [.ref p] ∧ (SqL K H p ys ∨ SqT K H p ys) ∧ Q (.int ys.length) H) ∨ (∃ z, xs = [.str z] ∧ z.length ≤ sizeLine ∧ Q (.int z.length) H) ∨ (∃ a kvs, xs = [V.ref a] ∧ H a = some (.dK kvs) ∧ Q (.int kvs.length) H)
theorem cf_len : CallR X (.builtin "len") (rLen X.K) := call_len_seq.or (call_len_str.or call_lenD)
def gLen : D → M D
  | .str x => fun _ w => if x.length ≤ sizeLine then .ok (.int x.length) w else .no
  | .tup ds => M.pure (.int ds.length)
  | .lst ds => M.pure (.int ds.length)
  | _ => M.no
theorem ok_len : Ok1 C (rLen C.K) gLen := by
  intro W σ ρ H ro w d x Q hS hd q
  cases d with
  | str z =>
    unfold gLen at q
    by_cases c : z.length ≤ sizeLine
    · simp only [if_pos c] at q
      exact .inr (.inl ⟨z, by rw [hd.str], c, ok_int hS q⟩)
    · simp only [if_neg c] at q
      exact (show False from q).elim
  | tup ds =>
    obtain ⟨a, vs, rfl, h, r⟩ := hd.tup
    refine .inl ⟨a, vs, rfl, .inr h, ?_⟩
    rw [← r.len]
    exact ok_int hS q
  | lst ds =>
    obtain ⟨a, vs, rfl, h, r⟩ := hd.lst
    refine .inl ⟨a, vs, rfl, .inl h, ?_⟩
    rw [← r.len]
    exact ok_int hS q
  | _ => exact (show False from q).elim
def rInt1 : List V → Hp → VK → Prop := fun xs H Q => (∃ i, xs = [.int i] ∧ Q (.int i) H) ∨ ∃ k, xs = [.bl k] ∧ Q (.int (if k then 1 else 0)) H
theorem cf_int : CallR X (.type "int") rInt1 := call_int1
def gInt : D → M D
  | .int i => M.pure (.int i)
  | .bl k => M.pure (.int (if k then 1 else 0))
  | _ => M.no
theorem ok_int1 : Ok1 C rInt1 gInt := by
  intro W σ ρ H ro w d x Q hS hd q
  cases d with
  | int i => exact .inl ⟨i, by rw [hd.int], ok_int hS q⟩
  | bl k => exact .inr ⟨k, by rw [hd.bl], ok_int hS q⟩
  | _ => exact (show False from q).elim
def rList (K : PySem.W.Frag) : List V → Hp → VK → Prop := fun xs H Q => ∃ p ys, xs = [.ref p] ∧ (SqL K H p ys ∨ SqT K H p ys) ∧ ∀ l, H l = none → Q (.ref l) (upd H l (.lst ys))
theorem cf_list : CallR X (.type "list") (rList X.K) := call_list_of
def gList : D → M D
  | .tup ds => M.pure (.lst ds)
  | .lst ds => M.pure (.lst ds)
  | _ => M.no
/-- a list that may change -/
def mNew (o : D) : M D := fun ro w => .ok (.ref (ro ++ w).length) (w ++ [o])
def gListM : D → M D
  | .tup ds => mNew (.lst ds)
  | .lst ds => mNew (.lst ds)
  | _ => M.no
theorem ok_list : Ok1 C (rList C.K) gList := by
  intro W σ ρ H ro w d x Q hS hd q
  cases d with
  | tup ds =>
    obtain ⟨a, vs, rfl, h, r⟩ := hd.tup
    exact ⟨a, vs, rfl, .inr h, ok_lst hS r q⟩
  | lst ds =>
    obtain ⟨a, vs, rfl, h, r⟩ := hd.lst
    exact ⟨a, vs, rfl, .inl h, ok_lst hS r q⟩
  | _ => exact (show False from q).elim
theorem ok_listM : Ok1 C (rList C.K) gListM := by
  intro W σ ρ H ro w d x Q hS hd q
  cases d with
  | tup ds =>
    obtain ⟨a, vs, rfl, h, r⟩ := hd.tup
    exact ⟨a, vs, rfl, .inr h, ok_newL hS r q⟩
  | lst ds =>
    obtain ⟨a, vs, rfl, h, r⟩ := hd.lst
    exact ⟨a, vs, rfl, .inl h, ok_newL hS r q⟩
  | _ => exact (show False from q).elim
def rTuple (K : PySem.W.Frag) : List V → Hp → VK → Prop := fun xs H Q => ∃ p ys, xs = [.ref p] ∧ ((SqL K H p ys ∧ ∀ l, H l = none → Q (.ref l) (upd H l (.tup ys))) ∨ (SqT K H p ys ∧ Q (.ref p) H))
theorem cf_tuple : CallR X (.type "tuple") (rTuple X.K) := call_tuple_of
def gTuple : D → M D
  | .tup ds => M.pure (.tup ds)
  | .lst ds => M.pure (.tup ds)
  | _ => M.no
theorem ok_tuple : Ok1 C (rTuple C.K) gTuple := by
  intro W σ ρ H ro w d x Q hS hd q
  cases d with
  | tup ds =>
    obtain ⟨a, vs, rfl, h, r⟩ := hd.tup
    exact ⟨a, vs, rfl, .inr ⟨h, ok_same hS hd.tupR q⟩⟩
  | lst ds =>
    obtain ⟨a, vs, rfl, h, r⟩ := hd.lst
    exact ⟨a, vs, rfl, .inl ⟨h, ok_tup hS r q⟩⟩
  | _ => exact (show False from q).elim

/-! ### isinstance -/
inductive Ty where
  | non | bl | int | str | tup | lst | dic
  deriving DecidableEq
def Ty.name : Ty → String
  | .non => "NoneType" | .bl => "bool" | .int => "int" | .str => "str" | .tup => "tuple" | .lst => "list" | .dic => "dict"
def isTy : Ty → Ty → Bool
  | .bl, .int => true
  | a, b => decide (a = b)
theorem isTy_ok : ∀ a b : Ty, kitB a.name b.name = some (isTy a b) := by
  intro a b
  cases a <;> cases b <;> decide +kernel
def D.ty? : D → Option Ty
  | .non => some .non | .bl _ => some .bl | .int _ => some .int | .str _ => some .str | .tup _ => some .tup | .lst _ => some .lst | .dic _ _ => some .dic
  | _ => none
theorem Seen.tyx {ρ : Zn} {H : Hp} {d : D} {v : V} {t : Ty} (h : Seen C ρ H d v) (e : d.ty? = some t) : TyX C.K H v (.type t.name) := by
  cases d with
  | non => cases e; rw [h.non]; exact .base .non
  | bl b => cases e; rw [h.bl]; exact .base (.bl b)
  | int b => cases e; rw [h.int]; exact .base (.int b)
  | str b => cases e; rw [h.str]; exact .base (.str b)
  | tup ds =>
    cases e
    rcases h with ⟨a, vs, rfl, h | h, _⟩ | ⟨a, _, h⟩
    · rcases h.2 with h | ⟨o, h⟩
      · exact .base (.tup h)
      · exact .fTuple h
    · obtain ⟨o, its, n, hk, hc, _⟩ := h
      exact .kTuple hk hc
    · exact (show False from h).elim
  | lst ds =>
    cases e
    obtain ⟨a, vs, rfl, h, _⟩ := h.lst
    rcases h with (h | ⟨o, h⟩) | ⟨o, its, n, hk, hc, _⟩
    · exact .base (.lst h)
    · exact .base (.frz h)
    · exact .kList hk hc
  | dic ks ds =>
    cases e
    obtain ⟨a, vs, rfl, h, _⟩ := h.dic
    rcases h with h | ⟨o, h⟩
    · exact .base (.dK h)
    · exact .fDict h
  | _ => cases e
def gIsi (t : Ty) (d : D) : M D := match d.ty? with
  | some a => M.pure (.bl (isTy a t))
  | none => M.no
def cIsi (t : Ty) (f : EF) : EF := fun env => M.bind (f env) fun d => M.bind (M.see d) (gIsi t)
theorem pf_isi (t : Ty) {x : Str} {q : Pos} (hg : Gl X "isinstance") (hm : X.mg "isinstance" = none) (hgT : Gl X x) (hmT : X.mg x = none) (hvT : bootBuiltins x = some (.type t.name)) (ha : PE X a (tE (cfg X) W fa))
    (hnT : x ≠ "__name__" := by decide) (hdT : (x == ("__debug__" : Str)) = false := by decide) (hs1 : starEach [a, .Name x q] X.env = (false, eval a X.env) :: starEach [.Name x q] X.env := by rfl) (hpl : (backTo pos (starEach [.Name x q] X.env)).any (·.1) = false := by rfl) :
    PE X (.Call (.Name "isinstance" p) [a, .Name x q] [] pos) (tE (cfg X) W (cIsi t fa)) := by
  refine pe_imp (pe_callB call_isi hg hm PyProof.Rows.boot_isinstance (pa_cons ha (pa_cons (pe_bltn (v := .ty t.name) hgT hmT hvT rfl hnT hdT) pa_nil) hs1) (by decide) (by decide) hs1 hpl) fun σ H Q ⟨ρ, env, ro, w, hS, hE, q⟩ => ?_
  refine tR_seq hS hE q fun d w1 v ρ1 H1 x1 s1 r1 q1 => ?_
  replace q1 : AfterR (cfg X) (Rep (cfg X)) W σ ρ1 H1 ro (gIsi t (see ro w1 d) ro w1) Q := q1
  unfold gIsi at q1
  cases ht : (see ro w1 d).ty? with
  | none =>
    rw [ht] at q1
    exact (show False from q1).elim
  | some u =>
    rw [ht] at q1
    exact ⟨v, .ty t.name, .type u.name, .type t.name, isTy u t, rfl, .ty _, (seen_of s1 r1).tyx ht, kit_ty (isTy_ok u t), ok_bl s1 q1⟩

/-! ### subscripts, slices -/
def gIx (x y : D) : M D := match x, y with
  | .tup ds, .int i => fun _ w => match atI ds i with
    | some d => .ok d w
    | none => .no
  | .lst ds, .int i => fun _ w => match atI ds i with
    | some d => .ok d w
    | none => .no
  | .str z, .int i => fun _ w => if z.length ≤ sizeLine then (match atI z.cps.toList i with
    | some c => .ok (.str ⟨#[c]⟩) w
    | none => .no) else .no
  | _, _ => M.no
theorem Reps.atI {ρ : Zn} {H : Hp} {ds : List D} {vs : List V} {i : Int} {d : D} (r : Reps C ρ H ds vs) (h : L2.atI ds i = some d) : ∃ v, L2.atI vs i = some v ∧ Rep C ρ H d v := by
  unfold L2.atI at h ⊢
  rw [r.len] at h
  cases e : ixN vs.length i with
  | none =>
    rw [e] at h
    cases h
  | some j =>
    rw [e] at h
    exact r.get h
theorem ok2_ix : Ok2 C (rIx C.K) gIx := by
  intro W σ ρ H ro w d e x y Q hS hd he q
  cases d with
  | tup ds =>
    cases e with
    | int i =>
      unfold gIx at q
      cases ht : L2.atI ds i with
      | none =>
        simp only [ht] at q
        exact (show False from q).elim
      | some d' =>
        simp only [ht] at q
        obtain ⟨a, vs, rfl, h, r⟩ := hd.tup
        obtain ⟨v, h1, h2⟩ := r.atI ht
        exact .inr (.inl ⟨a, vs, i, v, rfl, he.int, h, h1, ok_same hS h2 q⟩)
    | _ => exact (show False from q).elim
  | lst ds =>
    cases e with
    | int i =>
      unfold gIx at q
      cases ht : L2.atI ds i with
      | none =>
        simp only [ht] at q
        exact (show False from q).elim
      | some d' =>
        simp only [ht] at q
        obtain ⟨a, vs, rfl, h, r⟩ := hd.lst
        obtain ⟨v, h1, h2⟩ := r.atI ht
        exact .inl ⟨a, vs, i, v, rfl, he.int, h, h1, ok_same hS h2 q⟩
    | _ => exact (show False from q).elim
  | str z =>
    cases e with
    | int i =>
      unfold gIx at q
      by_cases c : z.length ≤ sizeLine
      · simp only [if_pos c] at q
        cases ht : L2.atI z.cps.toList i with
        | none =>
          simp only [ht] at q
          exact (show False from q).elim
        | some d' =>
          simp only [ht] at q
          exact .inr (.inr ⟨z, i, d', hd.str, he.int, c, ht, ok_str hS q⟩)
      · simp only [if_neg c] at q
        exact (show False from q).elim
    | _ => exact (show False from q).elim
  | _ => exact (show False from q).elim
theorem pf_ix (ha : PE X a (tE (cfg X) W fa)) (hb : PE X b (tE (cfg X) W fb)) (hs : PlainIx b) : PE X (.Subscript a b pos) (tE (cfg X) W (cBin gIx fa fb)) := pe_imp (pe_ix ix_seq ha hb hs) fun _ _ _ q => tE_bin ok2_ix q

abbrev RO : Zn → Hp → Option Int → Option Int → Prop := fun _ _ a b => a = b
abbrev tO (C : Cfg) (W : WX) (f : Env → M (Option Int)) : L2.St → Hp → (Option Int → Hp → Prop) → Prop := tR C RO W f
def cNoPart : Env → M (Option Int) := fun _ => M.pure none
def cPart (f : EF) : Env → M (Option Int) := fun env => M.bind (f env) fun d => match d with
  | .int i => M.pure (some i)
  | _ => M.no
theorem pfo_none : PO X none (tO C W cNoPart) := ⟨fun pins s σ H Q I q => po_none.run pins s σ H Q I (by
  obtain ⟨ρ, env, ro, w, hS, hE, q⟩ := q
  exact q none ρ H .refl hS rfl)⟩
theorem pfo_some (h : PE X e (tE C W f)) : PO X (some e) (tO C W (cPart f)) := ⟨fun pins s σ H Q I q => (po_some h).run pins s σ H Q I (by
  obtain ⟨ρ, env, ro, w, hS, hE, q⟩ := q
  refine tR_seq hS hE q fun d w1 v ρ1 H1 x1 s1 r1 q1 => ?_
  cases d with
  | int i => exact ⟨i, r1, q1 (some i) ρ1 H1 .refl s1 rfl⟩
  | _ => exact (show False from q1).elim)⟩
def cut {α : Type} (xs : List α) (lo hi : Option Int) : List α := (xs.drop (HT.sIx xs.length 0 lo)).take (HT.sIx xs.length xs.length hi - HT.sIx xs.length 0 lo)
def gSl (x : D) (lo hi : Option Int) : M D := match x with
  | .lst ds => M.pure (.lst (cut ds lo hi))
  | .tup ds => M.pure (.tup (cut ds lo hi))
  | .str z => fun _ w => if z.length ≤ sizeLine then .ok (.str (cutS z lo hi)) w else .no
  | _ => M.no
def rSl (K : PySem.W.Frag) : V → Option Int → Option Int → Hp → VK → Prop := fun x lo hi H Q => rSlL K x lo hi H Q ∨ rSlA K x lo hi H Q ∨ rSlS x lo hi H Q
theorem sf_sl : SlR X (rSl X.K) := sl_list.or (sl_tupA.or sl_str)
def cSl (f : EF) (lo hi : Env → M (Option Int)) : EF := fun env => M.bind (f env) fun d => M.bind (lo env) fun i => M.bind (hi env) fun j => M.bind (M.see d) fun d' => gSl d' i j
theorem Reps.cut {ρ : Zn} {H : Hp} {ds : List D} {vs : List V} {lo hi : Option Int} (r : Reps C ρ H ds vs) : Reps C ρ H (cut ds lo hi) (cutV vs lo hi) := by
  unfold Fx.cut cutV
  rw [r.len]
  exact (r.drop _).take _
theorem cut_whole {α : Type} {xs : List α} {lo hi : Option Int} (h : HT.sIx xs.length 0 lo = 0 ∧ HT.sIx xs.length xs.length hi = xs.length) : cut xs lo hi = xs := by
  unfold cut
  rw [h.1, h.2, Nat.sub_zero, List.drop_zero]
  exact List.take_length
theorem pf_sl {lo hi : Option Expr} {p2 : Pos} {fl fh : Env → M (Option Int)} (ha : PE X a (tE (cfg X) W fa)) (hl : PO X lo (tO (cfg X) W fl)) (hh : PO X hi (tO (cfg X) W fh)) : PE X (.Subscript a (.Slice lo hi none p2) pos) (tE (cfg X) W (cSl fa fl fh)) := by
  refine pe_imp (pe_slice sf_sl ha hl hh) fun σ H Q ⟨ρ, env, ro, w, hS, hE, q⟩ => ?_
  refine tR_seq hS hE q fun d w1 v ρ1 H1 x1 s1 r1 q1 => ?_
  refine tR_seq s1 (hE.ext x1) q1 fun i w2 i' ρ2 H2 x2 s2 ei q2 => ?_
  refine tR_seq s2 ((hE.ext x1).ext x2) q2 fun j w3 j' ρ3 H3 x3 s3 ej q3 => ?_
  cases ei
  cases ej
  have sd := seen_of s3 (Rep.ext x3 d (Rep.ext x2 d r1))
  replace q3 : AfterR (cfg X) (Rep (cfg X)) W σ ρ3 H3 ro (gSl (see ro w3 d) i j ro w3) Q := q3
  generalize see ro w3 d = d3 at sd q3
  cases d3 with
  | lst ds =>
    obtain ⟨a, vs, rfl, h, r⟩ := sd.lst
    exact .inl ⟨a, vs, rfl, h, ok_lst s3 r.cut q3⟩
  | tup ds =>
    obtain ⟨a, vs, rfl, h, r⟩ := sd.tup
    refine .inr (.inl ⟨a, vs, rfl, h, fun z => ?_, fun z => ok_tup s3 r.cut q3⟩)
    have z' : HT.sIx ds.length 0 i = 0 ∧ HT.sIx ds.length ds.length j = ds.length := by
      rw [r.len]
      exact z
    unfold gSl at q3
    simp only [cut_whole z'] at q3
    exact ok_same s3 sd.tupR q3
  | str z =>
    unfold gSl at q3
    by_cases c : z.length ≤ sizeLine
    · simp only [if_pos c] at q3
      exact .inr (.inr ⟨z, sd.str, c, ok_str s3 q3⟩)
    · simp only [if_neg c] at q3
      exact (show False from q3).elim
  | _ => exact (show False from q3).elim

/-! ### displays -/
def cTup (fs : Env → M (List D)) : EF := fun env => M.bind (fs env) fun ds => M.pure (.tup ds)
def cLst (fs : Env → M (List D)) : EF := fun env => M.bind (fs env) fun ds => M.pure (.lst ds)
def cLstM (fs : Env → M (List D)) : EF := fun env => M.bind (fs env) fun ds => mNew (.lst ds)
theorem tE_disp {g : List D → M D} {gs : List EF} {σ : L2.St} {H : Hp} {Q : VK} {K : List V → Hp → Prop} (q : tE C W (fun env => M.bind (cArgs gs env) g) σ H Q)
    (k : ∀ ds w1 vs ρ1 H1 ro, ds.length = gs.length → RepS C ρ1 H1 (ro ++ w1) → Reps C ρ1 H1 ds vs → AfterR C (Rep C) W σ ρ1 H1 ro (g ds ro w1) Q → K vs H1) : tA C W (cArgs gs) σ H K := by
  obtain ⟨ρ, env, ro, w, hS, hE, q⟩ := q
  replace q : AfterR C (Rep C) W σ ρ H ro (M.bind (cArgs gs env) g ro w) Q := q
  unfold M.bind at q
  refine ⟨ρ, env, ro, w, hS, hE, ?_⟩
  cases e : cArgs gs env ro w with
  | ok d w1 =>
    rw [e] at q
    exact fun v ρ1 H1 x s r => k d w1 v ρ1 H1 ro (cArgs_len gs e) s r (AfterR.ext x q)
  | exn c ns xs w1 =>
    rw [e] at q
    exact q
  | no =>
    rw [e] at q
    exact q
theorem pf_tup {k} {gs : List EF} (h : PA X es (tA C W (cArgs gs))) (hl : gs.length ≤ 1000 := by exact Nat.le_of_ble_eq_true rfl) : PE X (.Tuple es k pos) (tE C W (cTup (cArgs gs))) := pe_imp (pe_tup h) fun σ H Q q =>
  tE_disp q fun ds w1 vs ρ1 H1 ro e s r q1 => ⟨by rw [← r.len, e]; exact Nat.le_of_lt (small1000 hl), ok_tup s r q1⟩
theorem pf_lst {gs : List EF} (h : PA X es (tA C W (cArgs gs))) (hl : gs.length ≤ 1000 := by exact Nat.le_of_ble_eq_true rfl) : PE X (.List es pos) (tE C W (cLst (cArgs gs))) := pe_imp (pe_lst h) fun σ H Q q =>
  tE_disp q fun ds w1 vs ρ1 H1 ro e s r q1 => ⟨by rw [← r.len, e]; exact Nat.le_of_lt (small1000 hl), ok_lst s r q1⟩
theorem pf_lstM {gs : List EF} (h : PA X es (tA C W (cArgs gs))) (hl : gs.length ≤ 1000 := by exact Nat.le_of_ble_eq_true rfl) : PE X (.List es pos) (tE C W (cLstM (cArgs gs))) := pe_imp (pe_lst h) fun σ H Q q =>
  tE_disp q fun ds w1 vs ρ1 H1 ro e s r q1 => ⟨by rw [← r.len, e]; exact Nat.le_of_lt (small1000 hl), ok_newL s r q1⟩

/-! ### and, or, not, if -/
def cAnd (fa fb : EF) : EF := fun env => M.bind (fa env) fun d => match d with
  | .bl true => fb env
  | .bl false => M.pure (.bl false)
  | _ => M.no
def cOr (fa fb : EF) : EF := fun env => M.bind (fa env) fun d => match d with
  | .bl true => M.pure (.bl true)
  | .bl false => fb env
  | _ => M.no
def cNot (fa : EF) : EF := fun env => M.bind (fa env) fun d => match d with
  | .bl b => M.pure (.bl (!b))
  | _ => M.no
variable {rest : List Expr}
theorem pf_one {op} (h : PE X a (tE C W fa)) : PE X (.BoolOp op [a] pos) (tE C W fa) := pe_one h
theorem pf_and (ha : PE X a (tE C W fa)) (hb : PE X (.BoolOp .And (b :: rest) pos) (tE C W fb)) : PE X (.BoolOp .And (a :: b :: rest) pos) (tE C W (cAnd fa fb)) := pe_imp (pe_and ha hb) fun σ H Q ⟨ρ, env, ro, w, hS, hE, q⟩ => by
  refine tR_seq hS hE q fun d w1 v ρ1 H1 x1 s1 r1 q1 => ?_
  cases d with
  | bl k =>
    refine ⟨k, r1, ?_⟩
    cases k with
    | true => exact ⟨ρ1, env, ro, w1, s1, hE.ext x1, q1⟩
    | false => exact ok_bl s1 q1
  | _ => exact (show False from q1).elim
theorem pf_or (ha : PE X a (tE C W fa)) (hb : PE X (.BoolOp .Or (b :: rest) pos) (tE C W fb)) : PE X (.BoolOp .Or (a :: b :: rest) pos) (tE C W (cOr fa fb)) := pe_imp (pe_or ha hb) fun σ H Q ⟨ρ, env, ro, w, hS, hE, q⟩ => by
  refine tR_seq hS hE q fun d w1 v ρ1 H1 x1 s1 r1 q1 => ?_
  cases d with
  | bl k =>
    refine ⟨k, r1, ?_⟩
    cases k with
    | true => exact ok_bl s1 q1
    | false => exact ⟨ρ1, env, ro, w1, s1, hE.ext x1, q1⟩
  | _ => exact (show False from q1).elim
theorem pf_not (ha : PE X a (tE C W fa)) : PE X (.UnaryOp .Not a pos) (tE C W (cNot fa)) := pe_imp (pe_not ha) fun σ H Q ⟨ρ, env, ro, w, hS, hE, q⟩ => by
  refine tR_seq hS hE q fun d w1 v ρ1 H1 x1 s1 r1 q1 => ?_
  cases d with
  | bl k => exact ⟨k, r1, ok_bl s1 q1⟩
  | _ => exact (show False from q1).elim
def gNeg : D → M D
  | .int i => M.pure (.int (-i))
  | _ => M.no
def cUn (g : D → M D) (f : EF) : EF := fun env => M.bind (f env) g
theorem pf_neg (ha : PE X a (tE C W fa)) : PE X (.UnaryOp .USub a pos) (tE C W (cUn gNeg fa)) := pe_imp (pe_un un_neg ha) fun σ H Q ⟨ρ, env, ro, w, hS, hE, q⟩ => by
  refine tR_seq hS hE q fun d w1 v ρ1 H1 x1 s1 r1 q1 => ?_
  cases d with
  | int i => exact ⟨i, r1, ok_int s1 q1⟩
  | _ => exact (show False from q1).elim

/-! tests -/
def cNotT (f : Env → M Bool) : Env → M Bool := fun env => M.bind (f env) fun b => M.pure (!b)
def cAndT (f g : Env → M Bool) : Env → M Bool := fun env => M.bind (f env) fun b => if b = true then g env else M.pure false
def cOrT (f g : Env → M Bool) : Env → M Bool := fun env => M.bind (f env) fun b => if b = true then M.pure true else g env
variable {ta tb : Env → M Bool}
theorem pt_cmpF {op : CmpOp} {r : R2} {g : D → D → M D} (ho : OpR X (compareOp op) r) (hr : Ok2 C r g) (ha : PE X a (tE C W fa)) (hb : PE X b (tE C W fb)) (hm : behindInMarks op b = false) : PT X (.Compare a [op] [b] pos) (tT C W (cTest (cBin g fa fb))) :=
  pt_imp (pt_cmpR ho ha hb hm) fun σ H Q ⟨ρ, env, ro, w, hS, hE, q⟩ => by
    refine tE_bin hr ⟨ρ, env, ro, w, hS, hE, ?_⟩
    unfold cTest M.bind at q
    cases e : cBin g fa fb env ro w with
    | ok d w1 =>
      rw [e] at q
      intro v ρ1 H1 x1 s1 r1
      cases d with
      | bl k => exact ⟨k, r1, q k ρ1 H1 x1 s1 rfl⟩
      | _ => exact (show False from q).elim
    | exn c ns xs w1 =>
      rw [e] at q
      exact q
    | no =>
      rw [e] at q
      exact q
/-- any other test: a truth value -/
def M.truth : D → M Bool
  | .bl b => M.pure b
  | .non => M.pure false
  | .int i => M.pure (i != 0)
  | .lst ds => M.pure (!ds.isEmpty)
  | .tup ds => M.pure (!ds.isEmpty)
  | .str x => fun _ w => if x.length ≤ sizeLine then .ok ((x.length : Int) != 0) w else .no
  | _ => M.no
def cTru (f : EF) : Env → M Bool := fun env => M.bind (f env) fun d => M.bind (M.see d) M.truth
theorem Reps.isEmpty {ρ : Zn} {H : Hp} {ds : List D} {vs : List V} (r : Reps C ρ H ds vs) : (!ds.isEmpty) = !vs.isEmpty := by
  have := r.len
  cases ds <;> cases vs <;> first | rfl | simp at this
theorem pt_tru (ha : PE X a (tE (cfg X) W fa)) (he : ∀ whole, isTrue a X.env whole = (do let v ← whole; standAt a.pos; holding [v] (truthy v)) := by intro _; rfl) : PT X a (tT (cfg X) W (cTru fa)) :=
  pt_imp (pt_truth ha he) fun σ H Q ⟨ρ, env, ro, w, hS, hE, q⟩ => by
    refine tR_seq hS hE q fun d w1 v ρ1 H1 x1 s1 r1 q1 => ?_
    replace q1 : AfterR (cfg X) RB W σ ρ1 H1 ro (M.truth (see ro w1 d) ro w1) Q := q1
    have sd := seen_of s1 r1
    generalize see ro w1 d = d3 at sd q1
    cases d3 with
    | bl k => rw [sd.bl]; exact ⟨k, rfl, q1 k ρ1 H1 .refl s1 rfl⟩
    | non => rw [sd.non]; exact ⟨false, rfl, q1 _ ρ1 H1 .refl s1 rfl⟩
    | int i => rw [sd.int]; exact ⟨_, rfl, q1 _ ρ1 H1 .refl s1 rfl⟩
    | str z =>
      unfold M.truth at q1
      by_cases c : z.length ≤ sizeLine
      · simp only [if_pos c] at q1
        rw [sd.str]
        exact ⟨_, ⟨c, rfl⟩, q1 _ ρ1 H1 .refl s1 rfl⟩
      · simp only [if_neg c] at q1
        exact (show False from q1).elim
    | lst ds =>
      obtain ⟨p, vs, rfl, h, r⟩ := sd.lst
      exact ⟨_, .inl ⟨vs, h, rfl⟩, q1 _ ρ1 H1 .refl s1 r.isEmpty⟩
    | tup ds =>
      obtain ⟨p, vs, rfl, h, r⟩ := sd.tup
      exact ⟨_, .inr (.inl ⟨vs, h, rfl⟩), q1 _ ρ1 H1 .refl s1 r.isEmpty⟩
    | _ => exact (show False from q1).elim
theorem pw_and1F (ha : PT X a (tT C W ta)) : PW X (.BoolOp .And [a] pos) (tT C W ta) := pw_and1 ha
theorem pw_or1F (ha : PT X a (tT C W ta)) : PW X (.BoolOp .Or [a] pos) (tT C W ta) := pw_or1 ha
theorem pw_imp {t t' : TT} (h : PW X e t) (i : ∀ σ H Q, t' σ H Q → t σ H Q) : PW X e t' := ⟨fun wh pins s σ H Q I q => h.run wh pins s σ H Q I (i σ H Q q)⟩
theorem pw_andF (ha : PT X a (tT C W ta)) (hb : PW X (.BoolOp .And (b :: rest) pos) (tT C W tb)) : PW X (.BoolOp .And (a :: b :: rest) pos) (tT C W (cAndT ta tb)) := pw_imp (pw_and ha hb) fun σ H Q ⟨ρ, env, ro, w, hS, hE, q⟩ => by
  refine tR_seq hS hE q fun d w1 v ρ1 H1 x1 s1 r1 q1 => ?_
  cases (show d = v from r1)
  cases d with
  | true => exact ⟨ρ1, env, ro, w1, s1, hE.ext x1, q1⟩
  | false => exact q1 false ρ1 H1 .refl s1 rfl
theorem pw_orF (ha : PT X a (tT C W ta)) (hb : PW X (.BoolOp .Or (b :: rest) pos) (tT C W tb)) : PW X (.BoolOp .Or (a :: b :: rest) pos) (tT C W (cOrT ta tb)) := pw_imp (pw_or ha hb) fun σ H Q ⟨ρ, env, ro, w, hS, hE, q⟩ => by
  refine tR_seq hS hE q fun d w1 v ρ1 H1 x1 s1 r1 q1 => ?_
  cases (show d = v from r1)
  cases d with
  | true => exact q1 true ρ1 H1 .refl s1 rfl
  | false => exact ⟨ρ1, env, ro, w1, s1, hE.ext x1, q1⟩
theorem pt_notF (ha : PT X a (tT C W ta)) : PT X (.UnaryOp .Not a pos) (tT C W (cNotT ta)) := pt_imp (pt_not ha) fun σ H Q ⟨ρ, env, ro, w, hS, hE, q⟩ => by
  refine tR_seq hS hE q fun d w1 v ρ1 H1 x1 s1 r1 q1 => ?_
  cases (show d = v from r1)
  exact q1 (!d) ρ1 H1 .refl s1 rfl
def cIf (t : Env → M Bool) (fa fb : EF) : EF := fun env => M.bind (t env) fun b => if b = true then fa env else fb env
theorem pf_if (hc : PT X c (tT C W ta)) (ha : PE X a (tE C W fa)) (hb : PE X b (tE C W fb)) : PE X (.IfExp c a b pos) (tE C W (cIf ta fa fb)) := pe_imp (pe_ifExp hc ha hb) fun σ H Q ⟨ρ, env, ro, w, hS, hE, q⟩ => by
  refine tR_seq hS hE q fun d w1 v ρ1 H1 x1 s1 r1 q1 => ?_
  cases (show d = v from r1)
  cases d with
  | true => exact ⟨ρ1, env, ro, w1, s1, hE.ext x1, q1⟩
  | false => exact ⟨ρ1, env, ro, w1, s1, hE.ext x1, q1⟩
end
end Fx
namespace Fx
open PySem PySem.Spec L2

/-! ### statements -/
inductive Fl where
  | nx | rt (d : D) | bk | ct
inductive OS where
  | go (fl : Fl) (env : Env) (w : List D)
  | exn (c : Str) (ns : List Str) (xs : List D) (env : Env) (w : List D)
  | no
abbrev SF := Env → List D → List D → OS
def AfterS (C : Cfg) (W : WX) (ρ : Zn) (H : Hp) (ro : List D) (o : OS) (D : Ends) : Prop :=
  match o with
  | .go .nx env w => ∀ σ' ρ' H', Ext ρ ρ' H H' → RepS C ρ' H' (ro ++ w) → RepE C ρ' H' env σ' → D.nx σ' H'
  | .go (.rt d) env w => ∀ v ρ' H', Ext ρ ρ' H H' → RepS C ρ' H' (ro ++ w) → Rep C ρ' H' d v → D.rt v H'
  | .go .bk env w => ∀ σ' ρ' H', Ext ρ ρ' H H' → RepS C ρ' H' (ro ++ w) → RepE C ρ' H' env σ' → D.bk σ' H'
  | .go .ct env w => ∀ σ' ρ' H', Ext ρ ρ' H H' → RepS C ρ' H' (ro ++ w) → RepE C ρ' H' env σ' → D.ct σ' H'
  | .exn c ns xs env w => ∀ cls dx σ' ρ' H', Ext ρ ρ' H H' → RepS C ρ' H' (ro ++ w) → RepE C ρ' H' env σ' → RepX C ρ' H' c ns xs cls dx → W cls dx σ' H'
  | .no => False
def tS (C : Cfg) (W : WX) (f : SF) : TS := fun D σ H => ∃ ρ env ro w, RepS C ρ H (ro ++ w) ∧ RepE C ρ H env σ ∧ AfterS C W ρ H ro (f env ro w) D

section
variable {C : Cfg} {W : WX} {ρ ρ' : Zn} {H H' : Hp} {ro w : List D} {σ : L2.St} {env : Env}
theorem AfterS.ext {o : OS} {D : Ends} (x : Ext ρ ρ' H H') (h : AfterS C W ρ H ro o D) : AfterS C W ρ' H' ro o D := by
  cases o with
  | go fl env w =>
    cases fl with
    | nx => exact fun σ2 ρ2 H2 y hS hE => h σ2 ρ2 H2 (x.trans y) hS hE
    | rt d => exact fun v ρ2 H2 y hS hR => h v ρ2 H2 (x.trans y) hS hR
    | bk => exact fun σ2 ρ2 H2 y hS hE => h σ2 ρ2 H2 (x.trans y) hS hE
    | ct => exact fun σ2 ρ2 H2 y hS hE => h σ2 ρ2 H2 (x.trans y) hS hE
  | exn c ns xs env w => exact fun cls dx σ2 ρ2 H2 y hS hE hX => h cls dx σ2 ρ2 H2 (x.trans y) hS hE hX
  | no => exact h
theorem RepE.set {i : Nat} {d : D} {v : V} (h : RepE C ρ H env σ) (r : Rep C ρ H d v) : RepE C ρ H (env.set i (some d)) (σ.set i (some v)) := by
  refine ⟨by simp [h.len], fun j e q => ?_⟩
  by_cases hj : i = j
  · subst hj
    have hl := (List.getElem?_eq_some_iff.mp q).1
    rw [List.length_set] at hl
    rw [List.getElem?_set_self hl] at q
    cases q
    exact ⟨v, by rw [List.getElem?_set_self (by rw [← h.len]; exact hl)], r⟩
  · rw [List.getElem?_set_ne hj] at q
    obtain ⟨u, h1, h2⟩ := h.at' j e q
    exact ⟨u, by rw [List.getElem?_set_ne hj]; exact h1, h2⟩
def sLift {α : Type} (f : Env → M α) (k : α → SF) : SF := fun env ro w => match f env ro w with
  | .ok a w' => k a env ro w'
  | .exn c ns xs w' => .exn c ns xs env w'
  | .no => .no
theorem lift_after {α β : Type} {R : Zn → Hp → α → β → Prop} {f : Env → M α} {k : α → SF} {D : Ends} {K : β → Hp → Prop} (hE : RepE C ρ H env σ) (h : AfterS C W ρ H ro (sLift f k env ro w) D)
    (kk : ∀ d w1 v ρ1 H1, Ext ρ ρ1 H H1 → RepS C ρ1 H1 (ro ++ w1) → RepE C ρ1 H1 env σ → R ρ1 H1 d v → AfterS C W ρ1 H1 ro (k d env ro w1) D → K v H1) : AfterR C R W σ ρ H ro (f env ro w) K := by
  unfold sLift at h
  cases e : f env ro w with
  | ok d w1 =>
    rw [e] at h
    exact fun v ρ1 H1 x s r => kk d w1 v ρ1 H1 x s (hE.ext x) r (AfterS.ext x h)
  | exn c ns xs w1 =>
    rw [e] at h
    exact fun cls dx ρ1 H1 x s r => h cls dx σ ρ1 H1 x s (hE.ext x) r
  | no =>
    rw [e] at h
    exact h
theorem tS_seq {α β : Type} {R : Zn → Hp → α → β → Prop} {f : Env → M α} {k : α → SF} {D : Ends} {K : β → Hp → Prop} (hS : RepS C ρ H (ro ++ w)) (hE : RepE C ρ H env σ) (h : AfterS C W ρ H ro (sLift f k env ro w) D)
    (kk : ∀ d w1 v ρ1 H1, Ext ρ ρ1 H H1 → RepS C ρ1 H1 (ro ++ w1) → RepE C ρ1 H1 env σ → R ρ1 H1 d v → AfterS C W ρ1 H1 ro (k d env ro w1) D → K v H1) : tR C R W f σ H K := ⟨ρ, env, ro, w, hS, hE, lift_after hE h kk⟩
end

theorem ps_imp {X : Cx} {st : Stmt} {t t' : TS} (h : PS X st t) (i : ∀ D σ H, t' D σ H → t D σ H) : PS X st t' := ⟨fun pins s σ H D I q => h.run pins s σ H D I (i D σ H q)⟩
theorem pss_imp {X : Cx} {st : List Stmt} {t t' : TS} (h : PSs X st t) (i : ∀ D σ H, t' D σ H → t D σ H) : PSs X st t' := ⟨fun pins s σ H D I q => h.run pins s σ H D I (i D σ H q)⟩

section
variable {X : Cx} {C : Cfg} {W : WX} {pos p : Pos} {a b c e o : Expr} {es : List Expr} {st : Stmt} {sts : List Stmt} {fa fb fc f : EF} {s t : SF} {ta : Env → M Bool}
def sNil : SF := fun env _ w => .go .nx env w
def sSeq (s t : SF) : SF := fun env ro w => match s env ro w with
  | .go .nx env' w' => t env' ro w'
  | o => o
theorem fs_nil : PSs X [] (tS C W sNil) := pss_imp pss_nil fun D σ H ⟨ρ, env, ro, w, hS, hE, q⟩ => q σ ρ H .refl hS hE
theorem fs_cons (h1 : PS X st (tS C W s)) (h2 : PSs X sts (tS C W t)) : PSs X (st :: sts) (tS C W (sSeq s t)) := pss_imp (pss_cons h1 h2) fun D σ H ⟨ρ, env, ro, w, hS, hE, q⟩ => by
  refine ⟨ρ, env, ro, w, hS, hE, ?_⟩
  unfold sSeq at q
  cases e : s env ro w with
  | go fl env1 w1 =>
    rw [e] at q
    cases fl with
    | nx => exact fun σ1 ρ1 H1 x1 s1 e1 => ⟨ρ1, env1, ro, w1, s1, e1, AfterS.ext x1 q⟩
    | rt d => exact q
    | bk => exact q
    | ct => exact q
  | exn c ns xs env1 w1 =>
    rw [e] at q
    exact q
  | no =>
    rw [e] at q
    exact q
theorem fs_one (h1 : PS X st (tS C W s)) : PSs X [st] (tS C W s) := pss_one h1
def sPass : SF := sNil
theorem f_pass : PS X (.Pass pos) (tS C W sPass) := ps_imp ps_pass fun D σ H ⟨ρ, env, ro, w, hS, hE, q⟩ => q σ ρ H .refl hS hE
def sBrk : SF := fun env _ w => .go .bk env w
def sCnt : SF := fun env _ w => .go .ct env w
theorem f_brk : PS X (.Break pos) (tS C W sBrk) := ps_imp ps_break fun D σ H ⟨ρ, env, ro, w, hS, hE, q⟩ => q σ ρ H .refl hS hE
theorem f_cnt : PS X (.Continue pos) (tS C W sCnt) := ps_imp ps_continue fun D σ H ⟨ρ, env, ro, w, hS, hE, q⟩ => q σ ρ H .refl hS hE
def sSet (i : Nat) (f : EF) : SF := sLift f fun d env _ w => .go .nx (env.set i (some d)) w
theorem f_set (i : Nat) {x : Str} {pos' : Pos} (hN : X.N.Nodup) (he : PE X e (tE C W f)) (hi : X.N[i]? = some x := by rfl) (hx : Loc X.env.scope x := by first | exact Or.inl rfl | exact Or.inr rfl) (hs : swapsWith e (some (.Name x pos')) pos.line X.env = pure false := by rfl) (hf : X.fn x = true ∨ X.env.scope.names.lookup x = some .local := by first | exact .inl rfl | exact .inr rfl) :
    PS X (.Assign [.Name x pos'] e pos) (tS C W (sSet i f)) := ps_imp (ps_set hN hi hx he hs hf) fun D σ H ⟨ρ, env, ro, w, hS, hE, q⟩ =>
  tS_seq hS hE q fun d w1 v ρ1 H1 x1 s1 e1 r1 q1 => q1 _ ρ1 H1 .refl s1 (e1.set r1)
def sRet (f : EF) : SF := sLift f fun d env _ w => .go (.rt d) env w
theorem f_ret (he : PE X e (tE C W f)) : PS X (.Return (some e) pos) (tS C W (sRet f)) := ps_imp (ps_ret he) fun D σ H ⟨ρ, env, ro, w, hS, hE, q⟩ =>
  tS_seq hS hE q fun d w1 v ρ1 H1 x1 s1 e1 r1 q1 => q1 v ρ1 H1 .refl s1 r1
def sRetN : SF := fun env _ w => .go (.rt .non) env w
theorem f_retN : PS X (.Return none pos) (tS C W sRetN) := ps_imp ps_retN fun D σ H ⟨ρ, env, ro, w, hS, hE, q⟩ => q .non ρ H .refl hS rfl
def sExpr (f : EF) : SF := sLift f fun _ env _ w => .go .nx env w
theorem f_expr (he : PE X e (tE C W f)) (hs : swapsWith e none pos.line X.env = pure false := by rfl) : PS X (.Expr e pos) (tS C W (sExpr f)) := ps_imp (ps_expr he hs) fun D σ H ⟨ρ, env, ro, w, hS, hE, q⟩ =>
  tS_seq hS hE q fun d w1 v ρ1 H1 x1 s1 e1 r1 q1 => q1 σ ρ1 H1 .refl s1 e1
def sIf (ta : Env → M Bool) (s t : SF) : SF := sLift ta fun b => if b = true then s else t
theorem f_if {as bs : List Stmt} (hc : PT X c (tT C W ta)) (ha : PSs X as (tS C W s)) (hb : PSs X bs (tS C W t)) : PS X (.If c as bs pos) (tS C W (sIf ta s t)) := ps_imp (ps_if hc ha hb) fun D σ H ⟨ρ, env, ro, w, hS, hE, q⟩ => by
  refine tS_seq hS hE q fun d w1 v ρ1 H1 x1 s1 e1 r1 q1 => ?_
  cases (show d = v from r1)
  cases d with
  | true => exact ⟨ρ1, env, ro, w1, s1, e1, q1⟩
  | false => exact ⟨ρ1, env, ro, w1, s1, e1, q1⟩
/-- x op= e -/
def sAug (i : Nat) (g : D → D → M D) (f : EF) : SF := sLift (cVar i) fun x => sLift f fun y => sLift (fun _ => M.bind (M.see x) fun x' => M.bind (M.see y) fun y' => g x' y') fun z env _ w => .go .nx (env.set i (some z)) w
theorem f_aug (i : Nat) {x : Str} {pos' : Pos} {op : Operator} {r : R2} {g : D → D → M D} (hN : X.N.Nodup) (ho : OpR X (inplaceOp op) r) (hr : Ok2 C r g) (he : PE X e (tE C W f)) (hi : X.N[i]? = some x := by rfl) (hx : Loc X.env.scope x := by first | exact Or.inl rfl | exact Or.inr rfl) (hf : X.fn x = true ∨ X.env.scope.names.lookup x = some .local := by first | exact .inl rfl | exact .inr rfl) :
    PS X (.AugAssign (.Name x pos') op e pos) (tS C W (sAug i g f)) := ps_imp (ps_aug (ti := r) hN hi hx he ho hf) fun D σ H ⟨ρ, env, ro, w, hS, hE, q⟩ => by
  unfold sAug at q
  have hv : ∃ d, env[i]? = some (some d) := by
    unfold sLift cVar at q
    cases e : env[i]? with
    | none =>
      rw [e] at q
      exact (show False from q).elim
    | some o =>
      cases o with
      | none =>
        rw [e] at q
        exact (show False from q).elim
      | some d => exact ⟨d, rfl⟩
  obtain ⟨d, hd⟩ := hv
  obtain ⟨v, h1, h2⟩ := hE.at' i d hd
  have q' : AfterS C W ρ H ro (sLift f (fun y => sLift (fun _ => M.bind (M.see d) fun x' => M.bind (M.see y) fun y' => g x' y') fun z env _ w => .go .nx (env.set i (some z)) w) env ro w) D := by
    unfold sLift cVar at q
    rw [hd] at q
    exact q
  refine ⟨v, h1, ?_⟩
  refine tS_seq hS hE q' fun y w1 u ρ1 H1 x1 s1 e1 r1 q1 => ?_
  replace q1 : AfterS C W ρ1 H1 ro (sLift (fun _ => g (see ro w1 d) (see ro w1 y)) (fun z env _ w => .go .nx (env.set i (some z)) w) env ro w1) D := q1
  have q2 : AfterR C (Rep C) W σ ρ1 H1 ro (g (see ro w1 d) (see ro w1 y) ro w1) (fun z H2 => D.nx (σ.set i (some z)) H2) :=
    lift_after e1 q1 fun z w2 v2 ρ2 H2 x2 s2 e2 r2 q2 => q2 _ ρ2 H2 .refl s2 (e2.set r2)
  exact hr W σ ρ1 H1 ro w1 _ _ v u _ s1 (seen_of s1 (Rep.ext x1 d h2)) (seen_of s1 r1) q2

/-! ### a list that changes -/
def mMod (f : List D → Option (D × List D)) : D → M D
  | .ref n => fun ro w => if n < ro.length then .no else match w[n - ro.length]? with
    | some (.lst ds) => (match f ds with
      | some (d, ds') => .ok d (w.set (n - ro.length) (.lst ds'))
      | none => .no)
    | _ => .no
  | _ => M.no
/-- what it asks -/
theorem mMod_ok {f : List D → Option (D × List D)} {d : D} {x : V} {ρ : Zn} {H : Hp} {ro w : List D} {σ : L2.St} {Q : VK} (hS : RepS C ρ H (ro ++ w)) (hd : Rep C ρ H d x) (q : AfterR C (Rep C) W σ ρ H ro (mMod f d ro w) Q) :
    ∃ a vs ds r ds', x = .ref a ∧ H a = some (.lst vs) ∧ Reps C ρ H ds vs ∧ f ds = some (r, ds') ∧
      ∀ v vs', Rep C ρ H r v → Reps C ρ H ds' vs' → Q v (upd H a (.lst vs')) := by
  cases d with
  | ref n =>
    unfold mMod at q
    by_cases c : n < ro.length
    · simp only [if_pos c] at q
      exact (show False from q).elim
    · simp only [if_neg c] at q
      obtain ⟨a, ha, rfl⟩ := hd
      cases e : w[n - ro.length]? with
      | none =>
        rw [e] at q
        exact (show False from q).elim
      | some o =>
        rw [e] at q
        cases o with
        | lst ds =>
          have hn : (ro ++ w)[n]? = some (.lst ds) := by
            rw [List.getElem?_append_right (by omega)]
            exact e
          obtain ⟨vs, hv, r⟩ := hS.obj n a _ ha hn
          cases ef : f ds with
          | none =>
            simp only [ef] at q
            exact (show False from q).elim
          | some z =>
            obtain ⟨r', ds'⟩ := z
            simp only [ef] at q
            refine ⟨a, vs, ds, r', ds', rfl, hv, r, ef, fun v vs' hr hvs => ?_⟩
            exact ok_put (o := .lst vs') (d := .lst ds') hS c ha (fun H' x' e' => ⟨vs', e', Reps.ext x' ds' hvs⟩) hr q
        | _ => exact (show False from q).elim
  | _ => exact (show False from q).elim
/-- o.m(..) of a list: o is looked at ahead of the arguments -/
def cMl (g : List D → D → M D) (fo : EF) (fs : Env → M (List D)) : EF := fun env => M.bind (fo env) fun o => M.bind (M.see o) fun o' => match o' with
  | .lst _ => M.bind (fs env) fun ds => g ds o
  | _ => M.no
def OkM (C : Cfg) (r : V → List V → Hp → VK → Prop) (g : List D → D → M D) : Prop :=
  ∀ (W : WX) (σ : L2.St) (ρ : Zn) (H : Hp) (ro w : List D) (d : D) (x : V) (ds : List D) (xs : List V) (Q : VK), RepS C ρ H (ro ++ w) → Rep C ρ H d x → Reps C ρ H ds xs → AfterR C (Rep C) W σ ρ H ro (g ds d ro w) Q → r x xs H Q
theorem tE_ml {r : V → List V → Hp → VK → Prop} {g : List D → D → M D} {fo : EF} {fs : Env → M (List D)} (hr : OkM (cfg X) r g) {σ : L2.St} {H : Hp} {Q : VK} (q : tE (cfg X) W (cMl g fo fs) σ H Q) :
    tBM X.K "list" r (tE (cfg X) W fo) (tA (cfg X) W fs) σ H Q := by
  obtain ⟨ρ, env, ro, w, hS, hE, q⟩ := q
  refine tR_seq hS hE q fun d w1 v ρ1 H1 x1 s1 r1 q1 => ?_
  replace q1 : AfterR (cfg X) (Rep (cfg X)) W σ ρ1 H1 ro ((match see ro w1 d with
    | .lst _ => M.bind (fs env) fun ds => g ds d
    | _ => M.no) ro w1) Q := q1
  have sd := seen_of s1 r1
  generalize see ro w1 d = d3 at sd q1
  cases d3 with
  | lst ds =>
    obtain ⟨a, vs, rfl, h, r⟩ := sd.lst
    refine ⟨.inl ⟨rfl, vs, h⟩, ?_⟩
    refine tR_seq s1 (hE.ext x1) q1 fun es w2 us ρ2 H2 x2 s2 r2 q2 => ?_
    exact hr W σ ρ2 H2 ro w2 d _ es us Q s2 (Rep.ext x2 d r1) r2 q2
  | _ => exact (show False from q1).elim
def gAppend (ds : List D) : D → M D := mMod fun es => match ds with
  | [d] => if es.length < sizeLine then some (.non, es ++ [d]) else none
  | _ => none
theorem okm_append : OkM C rAppend gAppend := by
  intro W σ ρ H ro w d x ds xs Q hS hd hds q
  obtain ⟨a, vs, es, r, es', rfl, hv, hr, hf, k⟩ := mMod_ok hS hd q
  cases ds with
  | nil => cases hf
  | cons d' ds =>
    cases ds with
    | cons _ _ => cases hf
    | nil =>
      obtain ⟨v, r', rfl, h1, h2⟩ := hds
      cases (show r' = [] from h2)
      replace hf : (if es.length < sizeLine then some (D.non, es ++ [d']) else none) = some (r, es') := hf
      by_cases c : es.length < sizeLine
      · rw [if_pos c] at hf
        cases hf
        exact ⟨a, vs, v, rfl, rfl, hv, by rw [← hr.len]; exact c, k .non _ rfl (hr.append (Reps.one h1))⟩
      · rw [if_neg c] at hf
        cases hf
def gPopAt (ds : List D) : D → M D := mMod fun es => match ds with
  | [.int i] => if i.natAbs < 2 ^ 63 then (match seqIndex? i es.length with
    | some k => (match es[k]? with
      | some d => some (d, es.eraseIdx k)
      | none => none)
    | none => none) else none
  | _ => none
theorem okm_popAt : OkM C rPopAt gPopAt := by
  intro W σ ρ H ro w d x ds xs Q hS hd hds q
  obtain ⟨a, vs, es, r, es', rfl, hv, hr, hf, k⟩ := mMod_ok hS hd q
  cases ds with
  | nil => cases hf
  | cons d' ds =>
    cases ds with
    | cons _ _ => cases d' <;> cases hf
    | nil =>
      cases d' with
      | int i =>
        obtain ⟨v, r', rfl, h1, h2⟩ := hds
        cases (show r' = [] from h2)
        cases (show v = .int i from h1)
        dsimp only at hf
        by_cases c : i.natAbs < 2 ^ 63
        · rw [if_pos c] at hf
          cases e1 : seqIndex? i es.length with
          | none =>
            rw [e1] at hf
            cases hf
          | some j =>
            rw [e1] at hf
            cases e2 : es[j]? with
            | none =>
              simp only [e2] at hf
              cases hf
            | some y =>
              simp only [e2] at hf
              cases hf
              obtain ⟨v, g1, g2⟩ := hr.get e2
              exact ⟨a, vs, i, j, v, rfl, rfl, hv, by omega, by omega, by rw [← hr.len]; exact e1, g1, k v _ g2 (hr.eraseIdx j)⟩
        · rw [if_neg c] at hf
          cases hf
      | _ => cases hf
def gPop : List D → D → M D
  | [] => mMod fun es => match es[es.length - 1]? with
    | some d => some (d, es.dropLast)
    | none => none
  | _ => fun _ => M.no
theorem Reps.dropLast {ρ : Zn} {H : Hp} {ds : List D} {vs : List V} (r : Reps C ρ H ds vs) : Reps C ρ H ds.dropLast vs.dropLast := by
  rw [List.dropLast_eq_take, List.dropLast_eq_take, r.len]
  exact r.take _
theorem okm_pop : OkM C rPop gPop := by
  intro W σ ρ H ro w d x ds xs Q hS hd hds q
  cases ds with
  | cons _ _ => exact (show False from q).elim
  | nil =>
    cases (show xs = [] from hds)
    obtain ⟨a, vs, es, r, es', rfl, hv, hr, hf, k⟩ := mMod_ok hS hd q
    cases e2 : es[es.length - 1]? with
    | none =>
      rw [e2] at hf
      cases hf
    | some y =>
      rw [e2] at hf
      cases hf
      obtain ⟨v, g1, g2⟩ := hr.get e2
      rw [hr.len] at g1
      exact ⟨a, vs, v, rfl, rfl, hv, g1, k v _ g2 hr.dropLast⟩
theorem pf_append {fs : Env → M (List D)} {fo : EF} {apos : Pos} (ho : PE X o (tE (cfg X) W fo)) (ha : PA X (e :: es) (tA (cfg X) W fs)) (hbase : attributeBase o "append" X.env (eval o X.env) = eval o X.env := by rfl)
    (hfew : ((backTo pos (starEach (e :: es) X.env)).all (fun x => !x.1) && (backToKw pos (keywordEach [] X.env)).all (fun x => x.1.isSome)
      && decide ((e :: es).length + ([] : List Keyword).length + (if ([] : List Keyword).isEmpty then 0 else 1) < 30)) = true := by rfl)
    (hline : (apos.endLine == pos.line) = true := by rfl) (hs : starEach (e :: es) X.env = (false, eval e X.env) :: starEach es X.env := by rfl) (hplain : (backTo pos (starEach es X.env)).any (·.1) = false := by rfl) :
    PE X (.Call (.Attribute o "append" apos) (e :: es) [] pos) (tE (cfg X) W (cMl gAppend fo fs)) :=
  pe_imp (pe_bm PySem.F.plainAttrs_list PySem.F.slot_list_append PySem.F.type_list_append mt_append ho ha hbase hfew hline hs hplain) fun _ _ _ q => tE_ml okm_append q
theorem pf_popAt {fs : Env → M (List D)} {fo : EF} {apos : Pos} (ho : PE X o (tE (cfg X) W fo)) (ha : PA X (e :: es) (tA (cfg X) W fs)) (hbase : attributeBase o "pop" X.env (eval o X.env) = eval o X.env := by rfl)
    (hfew : ((backTo pos (starEach (e :: es) X.env)).all (fun x => !x.1) && (backToKw pos (keywordEach [] X.env)).all (fun x => x.1.isSome)
      && decide ((e :: es).length + ([] : List Keyword).length + (if ([] : List Keyword).isEmpty then 0 else 1) < 30)) = true := by rfl)
    (hline : (apos.endLine == pos.line) = true := by rfl) (hs : starEach (e :: es) X.env = (false, eval e X.env) :: starEach es X.env := by rfl) (hplain : (backTo pos (starEach es X.env)).any (·.1) = false := by rfl) :
    PE X (.Call (.Attribute o "pop" apos) (e :: es) [] pos) (tE (cfg X) W (cMl gPopAt fo fs)) :=
  pe_imp (pe_bm PySem.F.plainAttrs_list PySem.F.slot_list_pop PySem.F.type_list_pop mt_popAt ho ha hbase hfew hline hs hplain) fun _ _ _ q => tE_ml okm_popAt q

/-- x[i] = v -/
def gPut (v o i : D) : M D := match i with
  | .int k => mMod (fun es => match ixN es.length k with
    | some j => some (.non, es.set j v)
    | none => none) o
  | _ => M.no
def sPut (fo fi fv : EF) : SF := sLift fv fun v => sLift fo fun o => sLift fi fun i => sLift (fun _ => gPut v o i) fun _ env _ w => .go .nx env w
theorem f_put {i : Expr} {fo fi fv : EF} {pos' : Pos} (hv : PE X e (tE (cfg X) W fv)) (ho : PE X o (tE (cfg X) W fo)) (hi : PE X i (tE (cfg X) W fi)) (hs : swapsWithSole [.Subscript o i pos'] e pos.line X.env = pure false := by rfl) (hw : swappedStores [.Subscript o i pos'] e X.env = pure none := by rfl)
    (ha : ∀ v, assign (.Subscript o i pos') X.env v = (do
      let ov ← holding [v] (eval o X.env)
      let iv ← holding [v, ov] (eval i X.env)
      standAt pos'
      holding [v, ov, iv] (setItem ov iv v)
      release [v, ov, iv] []) := by intro _; rfl) (h1 : (assignEach [.Subscript o i pos'] X.env).map (·.2) = [assign (.Subscript o i pos') X.env] := by rfl) :
    PS X (.Assign [.Subscript o i pos'] e pos) (tS (cfg X) W (sPut fo fi fv)) := ps_imp (ps_asg hv (pg_sub ho hi set_list ha) hs hw h1) fun D σ H ⟨ρ, env, ro, w, hS, hE, q⟩ => by
  refine tS_seq hS hE q fun dv w1 v ρ1 H1 x1 s1 e1 r1 q1 => ?_
  refine tS_seq s1 e1 q1 fun do' w2 vo ρ2 H2 x2 s2 e2 r2 q2 => ?_
  refine tS_seq s2 e2 q2 fun di w3 vi ρ3 H3 x3 s3 e3 r3 q3 => ?_
  have rv := Rep.ext x3 dv (Rep.ext x2 dv r1)
  have ro' := Rep.ext x3 do' r2
  cases di with
  | int k =>
    have q4 : AfterR (cfg X) (Rep (cfg X)) W σ ρ3 H3 ro (mMod (fun es => match ixN es.length k with
      | some j => some ((.non : Fx.D), es.set j dv)
      | none => none) do' ro w3) (fun _ H4 => D.nx σ H4) :=
      lift_after (f := fun _ => gPut dv do' (.int k)) e3 q3 fun z w4 v4 ρ4 H4 x4 s4 e4 r4 q4 => q4 σ ρ4 H4 .refl s4 e4
    obtain ⟨a, vs, es, r, es', rfl, hv, hr, hf, kk⟩ := mMod_ok s3 ro' q4
    cases e5 : ixN es.length k with
    | none =>
      rw [e5] at hf
      cases hf
    | some j =>
      rw [e5] at hf
      cases hf
      exact ⟨a, vs, k, j, rfl, r3, hv, by rw [← hr.len]; exact e5, kk .non _ rfl (hr.set rv j)⟩
  | _ => exact (show False from q3).elim
end
end Fx
namespace Fx
open PySem PySem.Spec L2

/-! ### what is walked: its items in a row -/
def Walks (C : Cfg) (ρ0 : Zn) (H0 : Hp) (ds : List D) (J : It) : Prop :=
  ∀ (i : Nat) (ρ : Zn) (H : Hp) (v : List D), ExtR ρ0 ρ H0 H → RepS C ρ H v →
    (∀ d, ds[i]? = some d → J.go i H ∧ ∀ x H', J.yld i H x H' → Ext ρ ρ H H' ∧ RepS C ρ H' v ∧ Rep C ρ H' d x) ∧ (ds[i]? = none → J.stop i H)
abbrev tI (C : Cfg) (W : WX) (f : Env → M (List D)) : TI := tR C (Walks C) W f
theorem pi_imp {X : Cx} {tg e : Expr} {t t' : TI} (h : PI X tg e t) (i : ∀ σ H R, t' σ H R → t σ H R) : PI X tg e t' := ⟨fun pins s σ H R I q => h.run pins s σ H R I (i σ H R q)⟩
theorem pi_or {X : Cx} {tg e : Expr} {t t' : TI} (h : PI X tg e t) (h' : PI X tg e t') : PI X tg e (fun σ H R => t σ H R ∨ t' σ H R) := ⟨fun pins s σ H R I q => q.elim (h.run pins s σ H R I) (h'.run pins s σ H R I)⟩

section
variable {X : Cx} {C : Cfg} {W : WX} {pos p : Pos} {a b c e tg : Expr} {es : List Expr} {fa f : EF} {fs : Env → M (List D)} {ρ : Zn} {H : Hp}
/-! ### targets -/
inductive Tg where
  | nm (i : Nat)
  | tp (is : List Nat)
  | np (is js : List Nat)
def Tg.slots : Tg → List Nat
  | .nm i => [i]
  | .tp is => is
  | .np is js => is ++ js
def setsE : Env → List Nat → List D → Env
  | env, i :: is, d :: ds => setsE (env.set i (some d)) is ds
  | env, _, _ => env
def setsS : L2.St → List Nat → List V → L2.St
  | σ, i :: is, v :: vs => setsS (σ.set i (some v)) is vs
  | σ, _, _ => σ
def Tg.put : Tg → D → Env → Option Env
  | .nm i, d, env => some (env.set i (some d))
  | .tp is, .tup ds, env => if ds.length = is.length then some (setsE env is ds) else none
  | .tp _, _, _ => none
  | .np is js, .tup (.tup ds :: es), env => if ds.length = is.length ∧ es.length = js.length then some (setsE (setsE env is ds) js es) else none
  | .np _ _, _, _ => none
def gNs : List Nat → TGs
  | [] => gNil
  | i :: is => gCons (gName i) (gNs is)
def Tg.g (K : PySem.W.Frag) : Tg → TG
  | .nm i => gName i
  | .tp is => gTup K is.length (gNs is)
  | .np is js => gTup K (js.length + 1) (gCons (gTup K is.length (gNs is)) (gNs js))
theorem gNs_ok : ∀ {is : List Nat} {vs : List V} {σ : L2.St} {Q : L2.St → Hp → Prop}, vs.length = is.length → Q (setsS σ is vs) H → gNs is vs σ H Q
  | [], vs, σ, Q, hl, q => by
    cases vs with
    | nil => exact ⟨rfl, q⟩
    | cons _ _ => simp at hl
  | i :: is, vs, σ, Q, hl, q => by
    cases vs with
    | nil => simp at hl
    | cons v vs => exact ⟨v, vs, rfl, gNs_ok (by simpa using hl) q⟩
theorem sets_ok : ∀ {is : List Nat} {ds : List D} {vs : List V} {env : Env} {σ : L2.St}, RepE C ρ H env σ → Reps C ρ H ds vs → RepE C ρ H (setsE env is ds) (setsS σ is vs)
  | [], ds, vs, env, σ, h, r => by
    cases ds with
    | nil =>
      cases (show vs = [] from r)
      exact h
    | cons d ds =>
      obtain ⟨v, r', rfl, _, _⟩ := r
      exact h
  | i :: is, ds, vs, env, σ, h, r => by
    cases ds with
    | nil =>
      cases (show vs = [] from r)
      exact h
    | cons d ds =>
      obtain ⟨v, r', rfl, h1, h2⟩ := r
      exact sets_ok (is := is) (h.set h1) h2
def Tg.set : Tg → List V → V → L2.St → L2.St
  | .nm i, _, v, σ => σ.set i (some v)
  | .tp is, vs, _, σ => setsS σ is vs
  | .np is js, vs, _, σ => setsS (setsS σ is (vs.take is.length)) js (vs.drop is.length)
theorem Tg.ok {t : Tg} {d : D} {v : V} {env env' : Env} {σ : L2.St} {Q : L2.St → Hp → Prop} (hE : RepE C ρ H env σ) (hd : Rep C ρ H d v) (e : t.put d env = some env')
    (q : ∀ vs, RepE C ρ H env' (t.set vs v σ) → Q (t.set vs v σ) H) : t.g C.K v σ H Q := by
  cases t with
  | nm i =>
    cases (show some (env.set i (some d)) = some env' from e)
    exact q [] (hE.set hd)
  | tp is =>
    cases d with
    | tup ds =>
      replace e : (if ds.length = is.length then some (setsE env is ds) else none) = some env' := e
      by_cases c : ds.length = is.length
      · rw [if_pos c] at e
        cases e
        obtain ⟨a, vs, rfl, h, r⟩ := hd
        exact ⟨a, vs, rfl, Still.sqT h, by rw [← r.len, c], gNs_ok (by rw [← r.len, c]) (q vs (sets_ok hE r))⟩
      · rw [if_neg c] at e
        cases e
    | _ => cases e
  | np is js =>
    cases d with
    | tup ds =>
      cases ds with
      | nil => cases e
      | cons d1 es =>
        cases d1 with
        | tup ds =>
          replace e : (if ds.length = is.length ∧ es.length = js.length then some (setsE (setsE env is ds) js es) else none) = some env' := e
          by_cases c : ds.length = is.length ∧ es.length = js.length
          · rw [if_pos c] at e
            cases e
            obtain ⟨a, vs, rfl, h, v1, us, ev, ⟨b, ws, ew, h', r1⟩, r2⟩ := hd
            subst ev ew
            have l1 : ws.length = is.length := by rw [← r1.len, c.1]
            have l2 : us.length = js.length := by rw [← r2.len, c.2]
            have q' := q (ws ++ us)
            have es' : Tg.set (.np is js) (ws ++ us) (.ref a) σ = setsS (setsS σ is ws) js us := by
              show setsS (setsS σ is ((ws ++ us).take is.length)) js ((ws ++ us).drop is.length) = _
              rw [List.take_left' l1, List.drop_left' l1]
            rw [es'] at q'
            exact ⟨a, _, rfl, Still.sqT h, by rw [List.length_cons, l2], .ref b, us, rfl, ⟨b, ws, rfl, Still.sqT h', l1, gNs_ok l1 (gNs_ok l2 (q' (sets_ok (sets_ok hE r1) r2)))⟩⟩
          · rw [if_neg c] at e
            cases e
        | _ => cases e
    | _ => cases e
theorem pg_n (i : Nat) {x : Str} (hN : X.N.Nodup) (hi : X.N[i]? = some x := by rfl) (hx : Loc X.env.scope x := by first | exact Or.inl rfl | exact Or.inr rfl) (hf : X.fn x = true ∨ X.env.scope.names.lookup x = some .local := by first | exact .inl rfl | exact .inr rfl) :
    PG X (.Name x pos) ((Tg.nm i).g X.K) := pg_name hN hi hx hf
theorem pgn_nil : PGs X [] (gNs []) := pgs_nil
theorem pgn_cons {i : Nat} {is : List Nat} (h1 : PG X e ((Tg.nm i).g X.K)) (h2 : PGs X es (gNs is)) (hs : (assignEach (e :: es) X.env).map (·.2) = assign e X.env :: (assignEach es X.env).map (·.2) := by rfl) : PGs X (e :: es) (gNs (i :: is)) := pgs_cons h1 h2 hs
theorem pg_t {k : Nat} {is : List Nat} (hc : X.calm = true) (h : PGs X es (gNs is)) (hn : (assignEach es X.env).length = is.length := by rfl) (hst : (assignEach es X.env).findIdx? (·.1) = none := by rfl) : PG X (.Tuple es k pos) ((Tg.tp is).g X.K) := pg_tup hc h hn hst

theorem pg_np {k k2 : Nat} {is js : List Nat} {es1 es2 : List Expr} {pos1 : Pos} (hc : X.calm = true) (h1 : PGs X es1 (gNs is)) (h2 : PGs X es2 (gNs js)) (hn1 : (assignEach es1 X.env).length = is.length := by rfl) (hst1 : (assignEach es1 X.env).findIdx? (·.1) = none := by rfl)
    (hn : (assignEach (.Tuple es1 k2 pos1 :: es2) X.env).length = js.length + 1 := by rfl) (hst : (assignEach (.Tuple es1 k2 pos1 :: es2) X.env).findIdx? (·.1) = none := by rfl) (hs : (assignEach (.Tuple es1 k2 pos1 :: es2) X.env).map (·.2) = assign (.Tuple es1 k2 pos1) X.env :: (assignEach es2 X.env).map (·.2) := by rfl) :
    PG X (.Tuple (.Tuple es1 k2 pos1 :: es2) k pos) ((Tg.np is js).g X.K) := pg_tup hc (pgs_cons (pg_tup hc h1 hn1 hst1) h2 hs) hn hst

/-! ### sources -/
/-- a list, a tuple that stands still -/
def cSeq (f : EF) : Env → M (List D) := fun env => M.bind (f env) fun d => match d with
  | .lst ds => M.pure ds
  | .tup ds => M.pure ds
  | _ => M.no
theorem walks_list {K : PySem.W.Frag} {mg : Str → Option Value} {ds : List D} {v : V} {a : Addr} {vs : List V} (h : Still ρ H a (.lst vs) ∨ KL K a vs) (r : Reps ⟨K, mg, w⟩ ρ H ds vs) : Walks ⟨K, mg, w⟩ ρ H ds (Itl K a) := by
  intro i ρ' H' u x s
  have h' : SqL K H' a vs := h.elim (fun h => .inl (Still.extR x h).2) .inr
  have r' := Reps.extR x ds r
  refine ⟨fun d e => ?_, fun e => ⟨vs, h', ?_⟩⟩
  · obtain ⟨y, h1, h2⟩ := r'.get e
    refine ⟨⟨vs, y, h', h1⟩, fun z H2 ⟨e2, g⟩ => ?_⟩
    subst e2
    have := g vs h'
    rw [h1] at this
    cases this
    exact ⟨.refl, s, h2⟩
  · exact List.getElem?_eq_none_iff.mp (r'.none e)
theorem walks_tup {K : PySem.W.Frag} {mg : Str → Option Value} {ds : List D} {v : V} {a : Addr} {vs : List V} (h : Still ρ H a (.tup vs) ∨ KT K a vs) (r : Reps ⟨K, mg, w⟩ ρ H ds vs) : Walks ⟨K, mg, w⟩ ρ H ds (Itt K a) := by
  intro i ρ' H' u x s
  have h' : SqT K H' a vs := h.elim (fun h => .inl (Still.extR x h).2) .inr
  have r' := Reps.extR x ds r
  refine ⟨fun d e => ?_, fun e => ⟨vs, h', ?_⟩⟩
  · obtain ⟨y, h1, h2⟩ := r'.get e
    refine ⟨⟨vs, y, h', h1⟩, fun z H2 ⟨e2, g⟩ => ?_⟩
    subst e2
    have := g vs h'
    rw [h1] at this
    cases this
    exact ⟨.refl, s, h2⟩
  · exact List.getElem?_eq_none_iff.mp (r'.none e)
theorem pfi_seq (h : PE X e (tE (cfg X) W f)) : PI X tg e (tI (cfg X) W (cSeq f)) := pi_imp (pi_or (pi_list h) (pi_tup h)) fun σ H R ⟨ρ, env, ro, w, hS, hE, q⟩ => by
  unfold cSeq M.bind at q
  cases ef : f env ro w with
  | no =>
    rw [ef] at q
    exact (show False from q).elim
  | exn c ns xs w1 =>
    rw [ef] at q
    exact .inl ⟨ρ, env, ro, w, hS, hE, by rw [ef]; exact q⟩
  | ok d w1 =>
    rw [ef] at q
    cases d with
    | lst ds =>
      refine .inl ⟨ρ, env, ro, w, hS, hE, ?_⟩
      rw [ef]
      intro v ρ1 H1 x1 s1 ⟨a, vs, ev, hv, r⟩
      subst ev
      exact ⟨a, rfl, ⟨vs, Still.sqL hv⟩, q _ ρ1 H1 x1 s1 (walks_list (v := .ref a) hv r)⟩
    | tup ds =>
      refine .inr ⟨ρ, env, ro, w, hS, hE, ?_⟩
      rw [ef]
      intro v ρ1 H1 x1 s1 ⟨a, vs, ev, hv, r⟩
      subst ev
      exact ⟨a, rfl, ⟨vs, Still.sqT hv⟩, q _ ρ1 H1 x1 s1 (walks_tup (v := .ref a) hv r)⟩
    | _ => exact (show False from q).elim
/-- the signs of a text -/
def cSigns (f : EF) : Env → M (List D) := fun env => M.bind (f env) fun d => match d with
  | .str x => M.pure (x.cps.toList.map fun c => .str ⟨#[c]⟩)
  | _ => M.no
theorem walks_str {x : Str} : Walks C ρ H (x.cps.toList.map fun c => .str ⟨#[c]⟩) (Its x) := by
  intro i ρ' H' u y s
  refine ⟨fun d e => ?_, fun e => ?_⟩
  · rw [List.getElem?_map] at e
    cases ec : x.cps.toList[i]? with
    | none =>
      rw [ec] at e
      cases e
    | some c =>
      rw [ec] at e
      cases e
      have hi := (List.getElem?_eq_some_iff.mp ec).1
      refine ⟨(by simpa using hi : i < x.cps.size), fun z H2 ⟨e2, c', g1, g2⟩ => ?_⟩
      subst e2
      have ec' : x.cps[i]? = some c := by simpa using ec
      rw [ec'] at g1
      cases g1
      exact ⟨.refl, s, g2⟩
  · have := List.getElem?_eq_none_iff.mp e
    show x.cps.size ≤ i
    simpa using this
theorem pfi_str (h : PE X e (tE C W f)) : PI X tg e (tI C W (cSigns f)) := pi_imp (pi_str h) fun σ H R ⟨ρ, env, ro, w, hS, hE, q⟩ => by
  refine tR_seq hS hE q fun d w1 v ρ1 H1 x1 s1 r1 q1 => ?_
  cases d with
  | str x => exact ⟨x, r1, q1 _ ρ1 H1 .refl s1 walks_str⟩
  | _ => exact (show False from q1).elim
/-- range -/
def rngD (lo : Int) (n : Nat) : List D := (List.range n).map fun (i : Nat) => .int (lo + i)
def gRng1 : List D → M (List D)
  | [.int j] => fun _ w => if j.natAbs < 2 ^ 62 then .ok (rngD 0 j.toNat) w else .no
  | _ => M.no
def gRng2 : List D → M (List D)
  | [.int i, .int j] => fun _ w => if i.natAbs < 2 ^ 62 ∧ j.natAbs < 2 ^ 62 then .ok (rngD i (j - i).toNat) w else .no
  | _ => M.no
def cRng1 (fs : Env → M (List D)) : Env → M (List D) := fun env => M.bind (fs env) gRng1
def cRng2 (fs : Env → M (List D)) : Env → M (List D) := fun env => M.bind (fs env) gRng2
theorem walks_rng {lo : Int} {n : Nat} : Walks C ρ H (rngD lo n) (Itr lo n) := by
  intro i ρ' H' u y s
  unfold rngD
  refine ⟨fun d e => ?_, fun e => ?_⟩
  · rw [List.getElem?_map] at e
    by_cases hi : i < n
    · rw [List.getElem?_range hi] at e
      cases e
      refine ⟨hi, fun z H2 ⟨e2, g⟩ => ?_⟩
      subst e2
      exact ⟨.refl, s, g⟩
    · rw [List.getElem?_eq_none (by simpa using hi)] at e
      cases e
  · rw [List.getElem?_eq_none_iff] at e
    exact (by simpa using e : n ≤ i)
theorem int_of {ds : List D} {vs : List V} {i : Int} (r : Reps C ρ H (.int i :: ds) vs) : ∃ vr, vs = .int i :: vr ∧ Reps C ρ H ds vr := by
  obtain ⟨v, r', e1, e2, e3⟩ := r
  cases (show v = .int i from e2)
  exact ⟨r', e1, e3⟩
theorem pfi_rng1 (hg : Gl X "range") (hm : X.mg "range" = none) (ha : PA X [a] (tA C W fs)) (hs : starEach [a] X.env = [(false, eval a X.env)] := by rfl) : PI X tg (.Call (.Name "range" p) [a] [] pos) (tI C W (cRng1 fs)) :=
  pi_imp (pi_range1 hg hm ha hs) fun σ H R ⟨ρ, env, ro, w, hS, hE, q⟩ => by
    refine tR_seq hS hE q fun ds w1 vs ρ1 H1 x1 s1 r1 q1 => ?_
    unfold gRng1 at q1
    split at q1
    · rename_i j
      obtain ⟨vr, rfl, e3⟩ := int_of r1
      cases (show vr = [] from e3)
      by_cases c : j.natAbs < 2 ^ 62
      · simp only [if_pos c] at q1
        exact ⟨j, rfl, by omega, by omega, q1 _ ρ1 H1 .refl s1 walks_rng⟩
      · simp only [if_neg c] at q1
        exact (show False from q1).elim
    · exact (show False from q1).elim
theorem pfi_rng2 (hg : Gl X "range") (hm : X.mg "range" = none) (ha : PA X [a, b] (tA C W fs)) (hs : starEach [a, b] X.env = [(false, eval a X.env), (false, eval b X.env)] := by rfl) (hs2 : starEach [b] X.env = [(false, eval b X.env)] := by rfl) : PI X tg (.Call (.Name "range" p) [a, b] [] pos) (tI C W (cRng2 fs)) :=
  pi_imp (pi_range2 hg hm ha hs hs2) fun σ H R ⟨ρ, env, ro, w, hS, hE, q⟩ => by
    refine tR_seq hS hE q fun ds w1 vs ρ1 H1 x1 s1 r1 q1 => ?_
    unfold gRng2 at q1
    split at q1
    · rename_i i j
      obtain ⟨vr, rfl, e3⟩ := int_of r1
      obtain ⟨vr', rfl, e4⟩ := int_of e3
      cases (show vr' = [] from e4)
      by_cases c : i.natAbs < 2 ^ 62 ∧ j.natAbs < 2 ^ 62
      · simp only [if_pos c] at q1
        exact ⟨i, j, rfl, by omega, q1 _ ρ1 H1 .refl s1 walks_rng⟩
      · simp only [if_neg c] at q1
        exact (show False from q1).elim
    · exact (show False from q1).elim

/-! ### for -/
def forL (t : Tg) (body : SF) : List D → SF
  | [] => sNil
  | d :: ds => fun env ro w => match t.put d env with
    | none => .no
    | some env1 => match body env1 ro w with
      | .go .nx env2 w2 => forL t body ds env2 ro w2
      | .go .ct env2 w2 => forL t body ds env2 ro w2
      | .go .bk env2 w2 => .go .nx env2 w2
      | .go (.rt d) env2 w2 => .go (.rt d) env2 w2
      | .exn c ns xs env2 w2 => .exn c ns xs env2 w2
      | .no => .no
def sFor (t : Tg) (it : Env → M (List D)) (body : SF) : SF := sLift it fun ds => forL t body ds
theorem tS_for {t : Tg} {it : Env → M (List D)} {body : SF} {D : Ends} {σ : L2.St} {H : Hp} (q : tS (cfg X) W (sFor t it body) D σ H) : tFor (tI (cfg X) W it) (t.g X.K) (tS (cfg X) W body) D σ H := by
  obtain ⟨ρ, env, ro, w, hS, hE, q⟩ := q
  refine tS_seq hS hE q fun ds w1 J ρ1 H1 x1 s1 e1 walk q1 => ?_
  refine ⟨fun i m σ H => i + m = ds.length ∧ ∃ ρ2 env2 w2, Ext ρ1 ρ2 H1 H ∧ RepS (cfg X) ρ2 H (ro ++ w2) ∧ RepE (cfg X) ρ2 H env2 σ ∧ AfterS (cfg X) W ρ2 H ro (forL t body (ds.drop i) env2 ro w2) D,
    ⟨ds.length, by omega, ρ1, env, w1, .refl, s1, e1, q1⟩, fun i m σ H ⟨hm, ρ2, env2, w2, x2, s2, e2, q2⟩ => ?_⟩
  have wk := walk i ρ2 H _ x2.r s2
  cases hd : ds[i]? with
  | none =>
    have hl := List.getElem?_eq_none_iff.mp hd
    rw [List.drop_eq_nil_of_le hl] at q2
    exact .inl ⟨wk.2 hd, q2 σ ρ2 H .refl s2 e2⟩
  | some d =>
    have hl := (List.getElem?_eq_some_iff.mp hd).1
    have hdrop : ds.drop i = d :: ds.drop (i + 1) := by
      rw [List.drop_eq_getElem_cons hl, (List.getElem?_eq_some_iff.mp hd).2]
    rw [hdrop] at q2
    obtain ⟨go, yl⟩ := wk.1 d hd
    refine .inr ⟨go, fun σ' H' => ∃ ρ3 env3 w3, Ext ρ1 ρ3 H1 H' ∧ RepS (cfg X) ρ3 H' (ro ++ w3) ∧ RepE (cfg X) ρ3 H' env3 σ' ∧ AfterS (cfg X) W ρ3 H' ro (forL t body (ds.drop (i + 1)) env3 ro w3) D,
      fun σ' H' h => ⟨m - 1, by omega, by omega, h⟩, fun y H' hy => ?_⟩
    obtain ⟨x3, s3, r3⟩ := yl y H' hy
    unfold forL at q2
    cases hput : t.put d env2 with
    | none =>
      simp only [hput] at q2
      exact (show False from q2).elim
    | some env3 =>
      simp only [hput] at q2
      refine Tg.ok (C := cfg X) (e2.ext x3) r3 hput fun vs e3 => ⟨ρ2, env3, ro, w2, s3, e3, ?_⟩
      cases hbd : body env3 ro w2 with
      | no =>
        simp only [hbd] at q2
        exact q2
      | exn c ns xs env4 w4 =>
        simp only [hbd] at q2
        exact AfterS.ext x3 q2
      | go fl env4 w4 =>
        simp only [hbd] at q2
        cases fl with
        | nx => exact fun σ5 ρ5 H5 x5 s5 e5 => ⟨ρ5, env4, w4, x2.trans (x3.trans x5), s5, e5, AfterS.ext (x3.trans x5) q2⟩
        | ct => exact fun σ5 ρ5 H5 x5 s5 e5 => ⟨ρ5, env4, w4, x2.trans (x3.trans x5), s5, e5, AfterS.ext (x3.trans x5) q2⟩
        | bk => exact fun σ5 ρ5 H5 x5 s5 e5 => q2 σ5 ρ5 H5 (x3.trans x5) s5 e5
        | rt d' => exact fun v5 ρ5 H5 x5 s5 r5 => q2 v5 ρ5 H5 (x3.trans x5) s5 r5

theorem f_for {t : Tg} {it : Env → M (List D)} {body : SF} {sts : List Stmt} (hp : PassesOwn (model X.prog X.w) X.A X.env X.xe) (hc : X.calm = true) (hi : PI X tg e (tI (cfg X) W it)) (hg : PG X tg (t.g X.K)) (hb : PSs X sts (tS (cfg X) W body)) (hs : ∀ x, foldedSetIterable e X.env x = pure x := by intro _; rfl) :
    PS X (.For tg e sts [] pos) (tS (cfg X) W (sFor t it body)) := ps_imp (ps_for hp hc hi hg hb (hs := hs)) fun D σ H q => tS_for q

/-! ### while: at most `n` turns -/
def whileL (ta : Env → M Bool) (body : SF) : Nat → SF
  | 0 => fun _ _ _ => .no
  | n + 1 => sLift ta fun b => if b = true then fun env ro w => match body env ro w with
      | .go .nx env2 w2 => whileL ta body n env2 ro w2
      | .go .ct env2 w2 => whileL ta body n env2 ro w2
      | .go .bk env2 w2 => .go .nx env2 w2
      | .go (.rt d) env2 w2 => .go (.rt d) env2 w2
      | .exn c ns xs env2 w2 => .exn c ns xs env2 w2
      | .no => .no else sNil
def sWhile (n : Nat) (ta : Env → M Bool) (body : SF) : SF := whileL ta body n
theorem f_while {n : Nat} {ta : Env → M Bool} {body : SF} {sts : List Stmt} (hp : PassesOwn (model X.prog X.w) X.A X.env X.xe) (hc : PT X c (tT (cfg X) W ta)) (hb : PSs X sts (tS (cfg X) W body)) :
    PS X (.While c sts [] pos) (tS (cfg X) W (sWhile n ta body)) := ps_imp (ps_while hp hc hb) fun D σ H ⟨ρ, env, ro, w, hS, hE, q⟩ => by
  refine ⟨fun m σ H => ∃ ρ2 env2 w2, RepS (cfg X) ρ2 H (ro ++ w2) ∧ RepE (cfg X) ρ2 H env2 σ ∧ AfterS (cfg X) W ρ2 H ro (whileL ta body m env2 ro w2) D, ⟨n, ρ, env, w, hS, hE, q⟩, fun m σ H ⟨ρ2, env2, w2, s2, e2, q2⟩ => ?_⟩
  cases m with
  | zero => exact (show False from q2).elim
  | succ m =>
    refine tS_seq s2 e2 q2 fun b w3 b' ρ3 H3 x3 s3 e3 r3 q3 => ?_
    cases (show b = b' from r3)
    cases b with
    | false =>
      rw [if_neg Bool.false_ne_true] at q3 ⊢
      exact q3 σ ρ3 H3 .refl s3 e3
    | true =>
      rw [if_pos rfl] at q3 ⊢
      refine ⟨fun σ' H' => ∃ ρ4 env4 w4, RepS (cfg X) ρ4 H' (ro ++ w4) ∧ RepE (cfg X) ρ4 H' env4 σ' ∧ AfterS (cfg X) W ρ4 H' ro (whileL ta body m env4 ro w4) D, fun σ' H' h => ⟨m, Nat.lt_succ_self _, h⟩, ρ3, env2, ro, w3, s3, e3, ?_⟩
      cases hbd : body env2 ro w3 with
      | no =>
        simp only [hbd] at q3
        exact q3
      | exn c ns xs env4 w4 =>
        simp only [hbd] at q3
        exact q3
      | go fl env4 w4 =>
        simp only [hbd] at q3
        cases fl with
        | nx => exact fun σ5 ρ5 H5 x5 s5 e5 => ⟨ρ5, env4, w4, s5, e5, AfterS.ext x5 q3⟩
        | ct => exact fun σ5 ρ5 H5 x5 s5 e5 => ⟨ρ5, env4, w4, s5, e5, AfterS.ext x5 q3⟩
        | bk => exact q3
        | rt d' => exact q3
end
end Fx
namespace Fx
open PySem PySem.Spec L2

/-! ### the slots of a block wiped -/
theorem wipe_get (σ : L2.St) : ∀ (vs : List Nat) (j : Nat), (wipe σ vs)[j]? = if j ∈ vs then (if j < σ.length then some none else none) else σ[j]?
  | [], j => by simp [wipe]
  | v :: vs, j => by
    unfold wipe
    by_cases e : v = j
    · subst e
      simp only [List.mem_cons, true_or, if_true]
      by_cases hl : v < σ.length
      · rw [List.getElem?_set_self (by rw [wipe_length]; exact hl), if_pos hl]
      · rw [if_neg hl, List.getElem?_eq_none (by rw [List.length_set, wipe_length]; omega)]
    · rw [List.getElem?_set_ne e, wipe_get σ vs j]
      have : (j ∈ v :: vs) = (j ∈ vs) := by simp [Ne.symm e]
      simp only [this]
theorem wipe_eq {σ σ' : L2.St} {vs : List Nat} (hl : σ'.length = σ.length) (h : ∀ j, j ∉ vs → σ'[j]? = σ[j]?) : wipe σ' vs = wipe σ vs := by
  apply List.ext_getElem?
  intro j
  rw [wipe_get, wipe_get, hl]
  by_cases hj : j ∈ vs
  · simp only [if_pos hj]
  · simp only [if_neg hj]
    exact h j hj
theorem setsS_len : ∀ (is : List Nat) (vs : List V) (σ : L2.St), (setsS σ is vs).length = σ.length
  | [], vs, σ => by cases vs <;> rfl
  | i :: is, [], σ => rfl
  | i :: is, v :: vs, σ => by
    show (setsS (σ.set i (some v)) is vs).length = _
    rw [setsS_len is vs, List.length_set]
theorem setsS_get : ∀ (is : List Nat) (vs : List V) (σ : L2.St) (j : Nat), j ∉ is → (setsS σ is vs)[j]? = σ[j]?
  | [], vs, σ, j, _ => by cases vs <;> rfl
  | i :: is, [], σ, j, _ => rfl
  | i :: is, v :: vs, σ, j, h => by
    show (setsS (σ.set i (some v)) is vs)[j]? = _
    have h' : j ≠ i ∧ j ∉ is := by simpa using h
    rw [setsS_get is vs _ j h'.2, List.getElem?_set_ne (Ne.symm h'.1)]
theorem wipe_set {t : Tg} {own : List Nat} {vs : List V} {v : V} {σ : L2.St} (h : ∀ i ∈ t.slots, i ∈ own) : wipe (t.set vs v (wipe σ own)) own = wipe σ own := by
  have e1 : wipe (t.set vs v (wipe σ own)) own = wipe (wipe σ own) own := by
    cases t with
    | nm i =>
      refine wipe_eq (by simp [Tg.set]) fun j hj => ?_
      show ((wipe σ own).set i (some v))[j]? = _
      exact List.getElem?_set_ne fun e => hj (by rw [← e]; exact h i (by simp [Tg.slots]))
    | tp is =>
      refine wipe_eq (setsS_len _ _ _) fun j hj => ?_
      exact setsS_get is vs _ j fun hm => hj (h j hm)
    | np is js =>
      refine wipe_eq ((setsS_len _ _ _).trans (setsS_len _ _ _)) fun j hj => ?_
      exact (setsS_get js _ _ j fun hm => hj (h j (List.mem_append_right _ hm))).trans (setsS_get is _ _ j fun hm => hj (h j (List.mem_append_left _ hm)))
  rw [e1]
  refine wipe_eq (wipe_length _ _) fun j hj => ?_
  rw [wipe_get, if_neg hj]
def wipeE (env : Env) : List Nat → Env
  | [] => env
  | v :: vs => (wipeE env vs).set v none
theorem wipeE_ok {C : Cfg} {ρ : Zn} {H : Hp} {env : Env} {σ : L2.St} (h : RepE C ρ H env σ) : ∀ vs : List Nat, RepE C ρ H (wipeE env vs) (wipe σ vs)
  | [] => h
  | v :: vs => by
    have ih := wipeE_ok h vs
    refine ⟨by simp [wipeE, wipe, ih.len], fun j d e => ?_⟩
    unfold wipeE at e
    unfold wipe
    by_cases hj : v = j
    · subst hj
      by_cases hl : v < (wipeE env vs).length
      · rw [List.getElem?_set_self hl] at e
        cases e
      · rw [List.getElem?_eq_none (by simpa using hl)] at e
        cases e
    · rw [List.getElem?_set_ne hj] at e
      obtain ⟨u, h1, h2⟩ := ih.at' j d e
      exact ⟨u, by rw [List.getElem?_set_ne hj]; exact h1, h2⟩

/-! ### one object hidden -/
abbrev Zn.hide (ρ : Zn) (a : Addr) : Zn := ⟨ρ.r, a :: ρ.h⟩
section
variable {C : Cfg} {ρ ρ' : Zn} {H H' : Hp} {w : List D} {a : Addr} {o : HO}
theorem hide_new (hS : RepS C ρ H w) (ha : H a = none) : ExtR ρ (ρ.hide a) H (upd H a o) ∧ RepS C (ρ.hide a) (upd H a o) w := by
  have x : ExtR ρ (ρ.hide a) H (upd H a o) := ⟨⟨[], by simp⟩, fun b u e n => ⟨by rw [upd_ne (ne_of_none e ha)]; exact e, n.1, fun z => by
    rcases List.mem_cons.mp z with z | z
    · exact ne_of_none e ha z
    · exact n.2 z⟩⟩
  refine ⟨x, hS.len, hS.nd, fun i b d h1 h2 => ?_, fun b hb => ?_⟩
  · have hb : b ≠ a := fun e => (hS.fresh ha).1 (e ▸ List.mem_of_getElem? h1)
    have q := hS.obj i b d h1 h2
    cases d with
    | lst ds => obtain ⟨vs, e, r⟩ := q; exact ⟨vs, (upd_ne hb).trans e, Reps.extR x ds r⟩
    | dic ks ds => obtain ⟨vs, e, k, r⟩ := q; exact ⟨vs, (upd_ne hb).trans e, k, Reps.extR x ds r⟩
    | dct ks ds => obtain ⟨es, ep, as, vs, e, en, nd, rk, r⟩ := q; exact ⟨es, ep, as, vs, (upd_ne hb).trans e, en, nd, Reps.extR x ks rk, Reps.extR x ds r⟩
    | ins c ns ds => obtain ⟨A, dx, fs, m, e, k, r⟩ := q; exact ⟨A, dx, fs, m, (upd_ne hb).trans e, k, Reps.extR x ds r⟩
    | _ => exact (show False from q).elim
  · rcases List.mem_cons.mp hb with e | hb
    · subst e
      exact ⟨(hS.fresh ha).1, o, upd_same⟩
    · refine ⟨(hS.hid b hb).1, ?_⟩
      obtain ⟨u, e⟩ := (hS.hid b hb).2
      exact ⟨u, by rw [upd_ne (ne_of_none e ha)]; exact e⟩
/-- the hidden object is written -/
theorem hide_put (hS : RepS C ρ H w) (ha : a ∈ ρ.h) : ExtR ρ ρ H (upd H a o) ∧ RepS C ρ (upd H a o) w := by
  have x : ExtR ρ ρ H (upd H a o) := ⟨⟨[], by simp⟩, fun b u e n => ⟨by rw [upd_ne fun z => n.2 (by rw [z]; exact ha)]; exact e, n⟩⟩
  refine ⟨x, hS.len, hS.nd, fun i b d h1 h2 => ?_, fun b hb => ?_⟩
  · have hb : b ≠ a := fun e => (hS.hid a ha).1 (e ▸ List.mem_of_getElem? h1)
    have q := hS.obj i b d h1 h2
    cases d with
    | lst ds => obtain ⟨vs, e, r⟩ := q; exact ⟨vs, (upd_ne hb).trans e, Reps.extR x ds r⟩
    | dic ks ds => obtain ⟨vs, e, k, r⟩ := q; exact ⟨vs, (upd_ne hb).trans e, k, Reps.extR x ds r⟩
    | dct ks ds => obtain ⟨es, ep, as, vs, e, en, nd, rk, r⟩ := q; exact ⟨es, ep, as, vs, (upd_ne hb).trans e, en, nd, Reps.extR x ks rk, Reps.extR x ds r⟩
    | ins c ns ds => obtain ⟨A, dx, fs, m, e, k, r⟩ := q; exact ⟨A, dx, fs, m, (upd_ne hb).trans e, k, Reps.extR x ds r⟩
    | _ => exact (show False from q).elim
  · refine ⟨(hS.hid b hb).1, ?_⟩
    by_cases e : b = a
    · subst e
      exact ⟨o, upd_same⟩
    · obtain ⟨u, e2⟩ := (hS.hid b hb).2
      exact ⟨u, by rw [upd_ne e]; exact e2⟩
/-- .. and comes forth -/
theorem hide_end {h : List Addr} (hS : RepS C ρ H w) (hh : ρ.h = a :: h) : ExtR ρ ⟨ρ.r, h⟩ H H ∧ RepS C ⟨ρ.r, h⟩ H w := by
  have x : ExtR ρ ⟨ρ.r, h⟩ H H := ⟨⟨[], by simp⟩, fun b u e n => ⟨e, n.1, fun z => n.2 (by rw [hh]; exact List.mem_cons_of_mem _ z)⟩⟩
  refine ⟨x, hS.len, hS.nd, fun i b d h1 h2 => ?_, fun b hb => hS.hid b (by rw [hh]; exact List.mem_cons_of_mem _ hb)⟩
  have q := hS.obj i b d h1 h2
  cases d with
  | lst ds => obtain ⟨vs, e, r⟩ := q; exact ⟨vs, e, Reps.extR x ds r⟩
  | dic ks ds => obtain ⟨vs, e, k, r⟩ := q; exact ⟨vs, e, k, Reps.extR x ds r⟩
  | dct ks ds => obtain ⟨es, ep, as, vs, e, en, nd, rk, r⟩ := q; exact ⟨es, ep, as, vs, e, en, nd, Reps.extR x ks rk, Reps.extR x ds r⟩
  | ins c ns ds => obtain ⟨A, dx, fs, m, e, k, r⟩ := q; exact ⟨A, dx, fs, m, e, k, Reps.extR x ds r⟩
  | _ => exact (show False from q).elim
end

/-! ### a list comprehension -/
def M.calm {α : Type} (m : M α) : M α := fun ro w => match m ro w with
  | .ok a w' => .ok a w'
  | _ => .no
def W0 : WX := fun _ _ _ _ => False
def cYes : Env → M Bool := fun _ => M.pure true
def compR (t : Tg) (tt : Env → M Bool) (f : EF) (env : Env) : List D → M (List D)
  | [] => M.pure []
  | d :: ds => match t.put d env with
    | none => M.no
    | some env1 => M.bind (M.calm (tt env1)) fun b => if b = true then M.bind (M.calm (f env1)) fun x => M.bind (compR t tt f env ds) fun r => M.pure (x :: r) else compR t tt f env ds
/-- the items, at most as many as a list may have -/
def few (it : Env → M (List D)) : Env → M (List D) := fun env => M.bind (it env) fun ds => fun _ w => if ds.length ≤ sizeLine then .ok ds w else .no
def cComp (t : Tg) (own : List Nat) (it : Env → M (List D)) (tt : Env → M Bool) (f : EF) (k : List D → M D) : EF := fun env => M.bind (few it env) fun ds => M.bind (compR t tt f (wipeE env own) ds) k
/-- what becomes of the list: it stands still, or it may change -/
def kStill (ds : List D) : M D := M.pure (.lst ds)
def kMut (ds : List D) : M D := mNew (.lst ds)

section
variable {X : Cx} {C : Cfg} {W : WX} {σ : L2.St} {ρ : Zn} {H : Hp} {ro w : List D}
theorem calm_ok {α : Type} {m : M α} {a : α} {w' : List D} (h : M.calm m ro w = .ok a w') : m ro w = .ok a w' := by
  unfold M.calm at h
  split at h
  · rename_i e
    cases h
    exact e
  · cases h
theorem bind_ok {α β : Type} {m : M α} {f : α → M β} {b : β} {w' : List D} (h : M.bind m f ro w = .ok b w') : ∃ a w1, m ro w = .ok a w1 ∧ f a ro w1 = .ok b w' := by
  unfold M.bind at h
  split at h
  · exact ⟨_, _, by assumption, h⟩
  · cases h
  · cases h
theorem calm_never {α : Type} {m : M α} {o : Out α} (h : M.calm m ro w = o) : (∃ a w', o = .ok a w') ∨ o = .no := by
  subst h
  unfold M.calm
  split
  · exact .inl ⟨_, _, rfl⟩
  · exact .inr rfl
theorem compR_never {t : Tg} {tt : Env → M Bool} {f : EF} {env : Env} : ∀ (ds : List D) {w : List D}, (∃ r w', compR t tt f env ds ro w = .ok r w') ∨ compR t tt f env ds ro w = .no
  | [], w => .inl ⟨[], w, rfl⟩
  | d :: ds, w => by
    unfold compR
    cases t.put d env with
    | none => exact .inr rfl
    | some env1 =>
      dsimp only
      unfold M.bind
      rcases calm_never (m := tt env1) (ro := ro) (w := w) rfl with ⟨b, w1, e⟩ | e
      · rw [e]
        dsimp only
        cases b with
        | false =>
          rw [if_neg Bool.false_ne_true]
          exact compR_never ds
        | true =>
          rw [if_pos rfl]
          rcases calm_never (m := f env1) (ro := ro) (w := w1) rfl with ⟨x, w2, e2⟩ | e2
          · rw [e2]
            dsimp only
            rcases compR_never (t := t) (tt := tt) (f := f) (env := env) ds (w := w2) with ⟨r, w3, e3⟩ | e3
            · rw [e3]
              exact .inl ⟨_, _, rfl⟩
            · rw [e3]
              exact .inr rfl
          · rw [e2]
            exact .inr rfl
      · rw [e]
        exact .inr rfl
theorem ext_out {ρ1 ρ ρ4 : Zn} {H1 H H4 : Hp} {D0 : Addr} (xo : Ext ρ1 ⟨ρ.r, ρ1.h⟩ H1 H) (hh : ρ.h = D0 :: ρ1.h) (hD : H1 D0 = none) (y : Ext ρ ρ4 H H4) : Ext ρ1 ⟨ρ4.r, ρ1.h⟩ H1 H4 := by
  obtain ⟨⟨ν, p1⟩, h1, k1, m1⟩ := xo
  obtain ⟨⟨μ, p2⟩, h2, k2, m2⟩ := y
  refine ⟨⟨ν ++ μ, by rw [p2, show ρ.r = ρ1.r ++ ν from p1, List.append_assoc]⟩, rfl, fun a o e n => ?_, fun a ha => (m2 a (by rw [hh]; exact List.mem_cons_of_mem _ ha)).trans (m1 a ha)⟩
  obtain ⟨e1, n1⟩ := k1 a o e n
  obtain ⟨e2, n2⟩ := k2 a o e1 ⟨n1.1, fun z => by
    rw [hh] at z
    rcases List.mem_cons.mp z with z | z
    · exact ne_of_none e hD z
    · exact n.2 z⟩
  exact ⟨e2, n2.1, n.2⟩
theorem ext_outR {ρ1 ρ : Zn} {H1 H : Hp} {D0 : Addr} (xo : Ext ρ1 ⟨ρ.r, ρ1.h⟩ H1 H) (hh : ρ.h = D0 :: ρ1.h) (hD : H1 D0 = none) : ExtR ρ1 ρ H1 H := ⟨xo.pre, fun a o e n => by
  obtain ⟨e1, n1⟩ := xo.keep a o e n
  exact ⟨e1, n1.1, fun z => by
    rw [hh] at z
    rcases List.mem_cons.mp z with z | z
    · exact ne_of_none e hD z
    · exact n.2 z⟩⟩
theorem ext_upd {ρ1 ρ2 : Zn} {H1 H : Hp} {D0 : Addr} {o : HO} (xo : Ext ρ1 ρ2 H1 H) (hD : H1 D0 = none) (hh : D0 ∉ ρ1.h) : Ext ρ1 ρ2 H1 (upd H D0 o) :=
  ⟨xo.pre, xo.hid, fun a u e n => ⟨by rw [upd_ne (ne_of_none e hD)]; exact (xo.keep a u e n).1, (xo.keep a u e n).2⟩, fun a ha => by rw [upd_ne fun e => hh (by rw [← e]; exact ha)]; exact xo.same a ha⟩
/-- the turns: from `acc` at D on -/
theorem lc_ok {t : Tg} {own : List Nat} {tt : Env → M Bool} {f : EF} {env : Env} {ds : List D} {J : It} {Qd : Hp → Prop} {w1 : List D} {r : List D} {wf : List D} {ρ1 : Zn} {H1 : Hp} {D0 : Addr}
    (ht : ∀ i ∈ t.slots, i ∈ own) (hn : ds.length ≤ sizeLine) (walk : Walks C ρ1 H1 ds J) (s1 : RepS C ρ1 H1 (ro ++ w1)) (e1 : RepE C ρ1 H1 env σ) (hD : H1 D0 = none)
    (hr : compR t tt f (wipeE env own) ds ro w1 = .ok r wf)
    (k : ∀ (ρ2 : Zn) H2 vs, Ext ρ1 ⟨ρ2.r, ρ1.h⟩ H1 H2 → ρ2.h = D0 :: ρ1.h → RepS C ρ2 H2 (ro ++ wf) → H2 D0 = some (.lst vs) → Reps C ρ2 H2 r vs → Qd H2) :
    ∃ W : Nat → Nat → Hp → Prop, (∃ m, W 0 m (upd H1 D0 (.lst []))) ∧ ∀ i m H, W i m H →
      (J.stop i H ∧ Qd H) ∨ (J.go i H ∧ ∃ Nx : Hp → Prop, (∀ H', Nx H' → ∃ m', m' < m ∧ W (i + 1) m' H') ∧ ∀ x H', J.yld i H x H' → t.g C.K x (wipe σ own) H' fun σ2 H2 => wipe σ2 own = wipe σ own ∧ tT C W0 tt σ2 H2 fun b H3 =>
        if b = true then tE C W0 f σ2 H3 fun y H4 => ∃ acc, H4 D0 = some (.lst acc) ∧ acc.length < sizeLine ∧ Nx (upd H4 D0 (.lst (acc ++ [y]))) else Nx H3) := by
  -- what holds at turn i
  let I : Nat → Hp → Prop := fun i H => ∃ ρ w acc vs r2, Ext ρ1 ⟨ρ.r, ρ1.h⟩ H1 H ∧ ρ.h = D0 :: ρ1.h ∧ RepS C ρ H (ro ++ w) ∧ RepE C ρ H (wipeE env own) (wipe σ own) ∧ H D0 = some (.lst vs) ∧ Reps C ρ H acc vs ∧ acc.length ≤ i ∧
    compR t tt f (wipeE env own) (ds.drop i) ro w = .ok r2 wf ∧ r = acc ++ r2
  have h0 : I 0 (upd H1 D0 (.lst [])) := by
    obtain ⟨x, s⟩ := hide_new (o := .lst []) s1 hD
    refine ⟨ρ1.hide D0, w1, [], [], r, ⟨⟨[], by simp⟩, rfl, fun a o e n => ⟨by rw [upd_ne (ne_of_none e hD)]; exact e, n⟩, fun a ha => upd_ne fun e => (s1.fresh hD).2 (e ▸ ha)⟩, rfl, s, wipeE_ok (e1.extR x) own, upd_same, rfl, Nat.le_refl _, hr, rfl⟩
  refine ⟨fun i m H => i + m = ds.length ∧ I i H, ⟨ds.length, by omega, h0⟩, fun i m H ⟨hm, ρ, w, acc, vs, r2, xo, hh, s, e, hDv, hacc, hai, hcomp, hr2⟩ => ?_⟩
  have wk := walk i ρ H _ (ext_outR xo hh hD) s
  have hDm : D0 ∈ ρ.h := by rw [hh]; exact List.mem_cons_self
  cases hd : ds[i]? with
  | none =>
    have hl := List.getElem?_eq_none_iff.mp hd
    rw [List.drop_eq_nil_of_le hl] at hcomp
    cases (show (Out.ok [] w : Out (List D)) = .ok r2 wf from hcomp)
    refine .inl ⟨wk.2 hd, k ρ H vs xo hh s hDv ?_⟩
    rw [hr2, List.append_nil]
    exact hacc
  | some d =>
    have hl := (List.getElem?_eq_some_iff.mp hd).1
    have hdrop : ds.drop i = d :: ds.drop (i + 1) := by
      rw [List.drop_eq_getElem_cons hl, (List.getElem?_eq_some_iff.mp hd).2]
    rw [hdrop] at hcomp
    obtain ⟨go, yl⟩ := wk.1 d hd
    refine .inr ⟨go, fun H' => I (i + 1) H', fun H' h => ⟨m - 1, by omega, by omega, h⟩, fun y H' hy => ?_⟩
    obtain ⟨x3, s3, r3⟩ := yl y H' hy
    unfold compR at hcomp
    cases hput : t.put d (wipeE env own) with
    | none =>
      simp only [hput] at hcomp
      cases hcomp
    | some env1 =>
      simp only [hput] at hcomp
      obtain ⟨b, w4, hb, hcomp⟩ := bind_ok hcomp
      replace hb := calm_ok hb
      refine Tg.ok (e.ext x3) r3 hput fun us e3 => ⟨wipe_set ht, ρ, env1, ro, w, s3, e3, ?_⟩
      rw [hb]
      intro b' ρ4 H4 x4 s4 rb
      cases (show b = b' from rb)
      have e4 := e3.ext x4
      have xo4 := ext_out (ext_out xo hh hD x3) hh hD x4
      have hh4 : ρ4.h = D0 :: ρ1.h := x4.hid.trans hh
      have hDv4 : H4 D0 = some (.lst vs) := by rw [x4.same D0 hDm, x3.same D0 hDm]; exact hDv
      cases b with
      | false =>
        rw [if_neg Bool.false_ne_true] at hcomp ⊢
        exact ⟨ρ4, w4, acc, vs, r2, xo4, hh4, s4, (e.ext x3).ext x4, hDv4, Reps.ext x4 acc (Reps.ext x3 acc hacc), by omega, hcomp, hr2⟩
      | true =>
        rw [if_pos rfl] at hcomp ⊢
        obtain ⟨x, w5, hx, hcomp⟩ := bind_ok hcomp
        obtain ⟨r5, w6, hr5, hcomp⟩ := bind_ok hcomp
        cases (show (Out.ok (x :: r5) w6 : Out (List D)) = .ok r2 wf from hcomp)
        replace hx := calm_ok hx
        refine ⟨ρ4, env1, ro, w4, s4, e4, ?_⟩
        rw [hx]
        intro z ρ5 H5 x5 s5 r5'
        have hDm4 : D0 ∈ ρ4.h := by rw [hh4]; exact List.mem_cons_self
        have hh5 : ρ5.h = D0 :: ρ1.h := x5.hid.trans hh4
        have hDm5 : D0 ∈ ρ5.h := by rw [hh5]; exact List.mem_cons_self
        have hDv5 : H5 D0 = some (.lst vs) := by rw [x5.same D0 hDm4]; exact hDv4
        have hacc5 := Reps.ext x5 acc (Reps.ext x4 acc (Reps.ext x3 acc hacc))
        refine ⟨vs, hDv5, by rw [← hacc5.len]; omega, ?_⟩
        obtain ⟨x6, s6⟩ := hide_put (o := .lst (vs ++ [z])) s5 hDm5
        refine ⟨ρ5, w5, acc ++ [x], vs ++ [z], r5, ext_upd (ext_out xo4 hh4 hD x5) hD (s1.fresh hD).2, hh5, s6, (((e.ext x3).ext x4).ext x5).extR x6, upd_same, (Reps.extR x6 acc hacc5).append (Reps.one (Rep.extR x6 x r5')), by simp; omega, hr5, by rw [hr2]; simp⟩
end

section
variable {X : Cx} {W : WX} {pos p pos' : Pos} {elt tg iter : Expr} {ifs : List Expr} {scope : Scope} {own : List (Str × Nat)} {it : Env → M (List D)} {tt : Env → M Bool} {f : EF} {t : Tg}
/-- what stands behind the comprehension -/
def KOk (C : Cfg) (k : List D → M D) : Prop := ∀ (W : WX) (σ : L2.St) (ρ1 ρ2 : Zn) (H1 H2 : Hp) (ro w r v1 : List D) (a : Addr) (vs : List V) (Q : VK), RepS C ρ1 H1 v1 → Ext ρ1 ⟨ρ2.r, ρ1.h⟩ H1 H2 → ρ2.h = a :: ρ1.h → RepS C ρ2 H2 (ro ++ w) → H1 a = none → H2 a = some (.lst vs) → Reps C ρ2 H2 r vs →
  AfterR C (Rep C) W σ ρ1 H1 ro (k r ro w) Q → Q (.ref a) H2
theorem kStill_ok {C : Cfg} : KOk C kStill := fun W σ ρ1 ρ2 H1 H2 ro w r v1 a vs Q s1 x hh s ha e hr q => by
  obtain ⟨xe, se⟩ := hide_end s hh
  exact q (.ref a) _ H2 x se ⟨a, vs, rfl, .inl ⟨⟨(s.hid a (by rw [hh]; exact List.mem_cons_self)).1, (s1.fresh ha).2⟩, .inl e⟩, Reps.extR xe r hr⟩
theorem kMut_ok {C : Cfg} : KOk C kMut := fun W σ ρ1 ρ2 H1 H2 ro w r v1 a vs Q s1 x hh s ha e hr q => by
  have am : a ∈ ρ2.h := by rw [hh]; exact List.mem_cons_self
  have an := (s.hid a am).1
  have xe : ExtR ρ2 ⟨ρ2.r ++ [a], ρ1.h⟩ H2 H2 := ⟨⟨[a], rfl⟩, fun b u eb n => ⟨eb, by
    show b ∉ ρ2.r ++ [a]
    rw [List.mem_append, not_or]
    exact ⟨n.1, fun z => n.2 (by rw [List.mem_singleton.mp z]; exact am)⟩, fun z => n.2 (by rw [hh]; exact List.mem_cons_of_mem _ z)⟩⟩
  have se : RepS C ⟨ρ2.r ++ [a], ρ1.h⟩ H2 ((ro ++ w) ++ [.lst r]) := by
    refine ⟨by simp [s.len]; omega, ?_, fun i b d' h1 h2 => ?_, fun b hb => ⟨?_, (s.hid b (by rw [hh]; exact List.mem_cons_of_mem _ hb)).2⟩⟩
    · show (ρ2.r ++ [a]).Nodup
      rw [List.nodup_append]
      refine ⟨s.nd, by simp, fun b hb c hc e' => ?_⟩
      rw [List.mem_singleton] at hc
      rw [e', hc] at hb
      exact an hb
    · replace h1 : (ρ2.r ++ [a])[i]? = some b := h1
      by_cases hi : i < ρ2.r.length
      · rw [List.getElem?_append_left hi] at h1
        rw [List.getElem?_append_left (by rw [← s.len]; exact hi)] at h2
        have q' := s.obj i b d' h1 h2
        cases d' with
        | lst ds => obtain ⟨vs, e, r⟩ := q'; exact ⟨vs, e, Reps.extR xe ds r⟩
        | dic ks ds => obtain ⟨vs, e, k, r⟩ := q'; exact ⟨vs, e, k, Reps.extR xe ds r⟩
        | dct ks ds => obtain ⟨es, ep, as, vs, e, en, nd, rk, r⟩ := q'; exact ⟨es, ep, as, vs, e, en, nd, Reps.extR xe ks rk, Reps.extR xe ds r⟩
        | ins c ns ds => obtain ⟨A, dx, fs, m, e, k, r⟩ := q'; exact ⟨A, dx, fs, m, e, k, Reps.extR xe ds r⟩
        | _ => exact (show False from q').elim
      · have hl := (List.getElem?_eq_some_iff.mp h1).1
        rw [List.length_append, List.length_singleton] at hl
        have ei : i = ρ2.r.length := by omega
        subst ei
        rw [List.getElem?_append_right (Nat.le_refl _), Nat.sub_self] at h1
        rw [List.getElem?_append_right (by rw [s.len]; exact Nat.le_refl _), s.len, Nat.sub_self] at h2
        simp only [List.getElem?_cons_zero, Option.some.injEq] at h1 h2
        subst h1
        subst h2
        exact ⟨vs, e, Reps.extR xe r hr⟩
    · show b ∉ ρ2.r ++ [a]
      rw [List.mem_append, not_or]
      exact ⟨(s.hid b (by rw [hh]; exact List.mem_cons_of_mem _ hb)).1, fun z => (s1.fresh ha).2 (by rw [← List.mem_singleton.mp z]; exact hb)⟩
  refine q (.ref a) ⟨ρ2.r ++ [a], ρ1.h⟩ H2 ⟨?_, rfl, fun b u eb n => ⟨(x.keep b u eb n).1, ?_, n.2⟩, x.same⟩ ?_ ⟨a, ?_, rfl⟩
  · obtain ⟨ν, p⟩ := x.pre
    exact ⟨ν ++ [a], by show ρ2.r ++ [a] = _; rw [show ρ2.r = ρ1.r ++ ν from p, List.append_assoc]⟩
  · show b ∉ ρ2.r ++ [a]
    rw [List.mem_append, not_or]
    exact ⟨(x.keep b u eb n).2.1, fun z => ne_of_none eb ha (List.mem_singleton.mp z)⟩
  · rw [← List.append_assoc]
    exact se
  · show (ρ2.r ++ [a])[_]? = _
    rw [← s.len, List.getElem?_append_right (Nat.le_refl _), Nat.sub_self]
    rfl
theorem tE_comp {k : List D → M D} (hk : KOk (cfg X) k) (ht : ∀ i ∈ t.slots, i ∈ own.map (·.2)) {σ : L2.St} {H : Hp} {Q : VK} (q : tE (cfg X) W (cComp t (own.map (·.2)) it tt f k) σ H Q) :
    tLc (tI (cfg X) W it) (t.g X.K) (tT (cfg X) W0 tt) (tE (cfg X) W0 f) (own.map (·.2)) σ H Q := by
  obtain ⟨ρ, env, ro, w, hS, hE, q⟩ := q
  unfold cComp few at q
  unfold M.bind at q
  refine ⟨ρ, env, ro, w, hS, hE, ?_⟩
  cases ei : it env ro w with
  | no =>
    simp only [M.bind, ei] at q
    exact q
  | exn c ns xs w1 =>
    simp only [M.bind, ei] at q
    exact q
  | ok ds w1 =>
    simp only [M.bind, ei] at q
    by_cases hn : ds.length ≤ sizeLine
    · simp only [if_pos hn] at q
      intro J ρ1 H1 x1 s1 walk D0 hD
      rcases compR_never (t := t) (tt := tt) (f := f) (env := wipeE env (own.map (·.2))) (ro := ro) ds (w := w1) with ⟨r, wf, hr⟩ | hr
      · simp only [hr] at q
        exact lc_ok (C := cfg X) ht hn walk s1 (hE.ext x1) hD hr fun ρ2 H2 vs x2 hh s2 e2 r2 => hk W σ ρ1 ρ2 H1 H2 ro wf r _ D0 vs Q s1 x2 hh s2 hD e2 r2 (AfterR.ext x1 q)
      · simp only [hr] at q
        exact (show False from q).elim
    · simp only [if_neg hn] at q
      exact (show False from q).elim
theorem pf_lc {k : List D → M D} (hk : KOk (cfg X) k) (ht : ∀ i ∈ t.slots, i ∈ own.map (·.2)) (hc : X.calm = true) (hN : X.N.Nodup) (hi : PI X tg iter (tI (cfg X) W it)) (ok : BlkOk X.N X.env.scope scope own)
    (hg : ∀ (s : Shared) (H : Hp) (C : Addr) (cl : List (Str × Addr)) (fp : List Addr), PG (X.blk s H scope (compEnvC scope cl C X.env) fp) tg (t.g X.K)) (hq : ∀ (s : Shared) (H : Hp) (C : Addr) (cl : List (Str × Addr)) (fp : List Addr), PTs (X.blk s H scope (compEnvC scope cl C X.env) fp) ifs (tT (cfg X) W0 tt))
    (he : ∀ (s : Shared) (H : Hp) (C : Addr) (cl : List (Str × Addr)) (fp : List Addr), PE (X.blk s H scope (compEnvC scope cl C X.env) fp) elt (tE (cfg X) W0 f)) (hs : ∀ x, foldedSetIterable iter X.env x = pure x := by intro _; rfl) :
    PE X (.ListComp elt [⟨tg, iter, ifs, 0⟩] scope pos) (tE (cfg X) W (cComp t (own.map (·.2)) it tt f k)) := pe_imp (pe_lc hc hN hi ok hg hq he hs) fun _ _ _ q => tE_comp hk ht q
theorem f_setLc {k : List D → M D} (i : Nat) {y : Str} {py : Pos} (hk : KOk (cfg X) k) (ht : ∀ i ∈ t.slots, i ∈ own.map (·.2)) (hc : X.calm = true) (hN : X.N.Nodup) (hsw : swapsWith (.ListComp elt [⟨tg, iter, ifs, 0⟩] scope pos) (some (.Name y py)) pos'.line X.env = pure true) (hi : PI X tg iter (tI (cfg X) W it)) (ok : BlkOk X.N X.env.scope scope own)
    (hg : ∀ (s : Shared) (H : Hp) (C : Addr) (cl : List (Str × Addr)) (fp : List Addr), PG (X.blk s H scope (compEnvC scope cl C X.env) fp) tg (t.g X.K)) (hq : ∀ (s : Shared) (H : Hp) (C : Addr) (cl : List (Str × Addr)) (fp : List Addr), PTs (X.blk s H scope (compEnvC scope cl C X.env) fp) ifs (tT (cfg X) W0 tt))
    (he : ∀ (s : Shared) (H : Hp) (C : Addr) (cl : List (Str × Addr)) (fp : List Addr), PE (X.blk s H scope (compEnvC scope cl C X.env) fp) elt (tE (cfg X) W0 f)) (hs : ∀ x, foldedSetIterable iter X.env x = pure x := by intro _; rfl) (hy : X.N[i]? = some y := by rfl) (hyl : X.env.scope.names.lookup y = some .local := by rfl) :
    PS X (.Assign [.Name y py] (.ListComp elt [⟨tg, iter, ifs, 0⟩] scope pos) pos') (tS (cfg X) W (sSet i (cComp t (own.map (·.2)) it tt f k))) := ps_imp (ps_setLc hc hN hy hyl hsw hi ok hg hq he hs) fun D σ H ⟨ρ, env, ro, w, hS, hE, q⟩ => by
  refine tE_comp hk ht ?_
  exact tS_seq hS hE q fun d w1 v ρ1 H1 x1 s1 e1 r1 q1 => q1 _ ρ1 H1 .refl s1 (e1.set r1)
theorem fts_nil {C : Cfg} : PTs X [] (tT C W cYes) := ⟨fun pins s σ H Q I q => pts_nil.run pins s σ H Q I (by
  obtain ⟨ρ, env, ro, w, hS, hE, q⟩ := q
  exact q true ρ H .refl hS rfl)⟩
theorem fts_one {C : Cfg} {c : Expr} (h : PT X c (tT C W tt)) : PTs X [c] (tT C W tt) := pts_one h
end
end Fx
namespace Fx
open PySem PySem.Spec L2

/-! ### a def's promise -/
def spF (C : Cfg) (g : List D → M D) (n : Nat) : Sp := fun vs H Q E => ∃ ρ ds ro w, vs.length = n ∧ RepS C ρ H (ro ++ w) ∧ Reps C ρ H ds vs ∧ AfterR C (Rep C) (fun c d _ H => E c d H) [] ρ H ro (g ds ro w) Q
/-- a def of the top, by its name, keeps it with n calls -/
structure CallOk (P : Program) (w : World) (K : PySem.W.Frag) (mg : Str → Option Value) (base : Heap) (n : Nat) (x : Str) (g : List D → M D) (np : Nat) : Prop where
  ex : ∃ a fd ps, mg x = some (.ref a) ∧ PySem.W.keepIn K (.ref a) = true ∧ Binds K fd ps [] ∧ ps.length = np ∧ FnOk P w K mg base (L2.CX P w) n a fd ps (spF ⟨K, mg, w⟩ g np)
abbrev CallX (X : Cx) (n : Nat) (x : Str) (g : List D → M D) (np : Nat) : Prop := CallOk X.prog X.w X.K X.mg X.base n x g np
/-- what is raised in a call is what this place wishes -/
abbrev PassW (X : Cx) (W : WX) : Prop := ∀ σ, PassesAt (L2.CX X.prog X.w) X σ (WE W σ)
theorem pass_of {X : Cx} {W : WX} (tk : Takes X W) : PassW X W := fun σ => passAt tk σ
theorem pass_0 {X : Cx} : PassW X W0 := fun σ _ _ _ _ _ _ h => by
  obtain ⟨_, _, _, _, _, _, _, _, _, _, _, _, z⟩ := h
  exact (show False from z).elim
section
variable {X : Cx} {W : WX} {pos p : Pos} {e : Expr} {es : List Expr} {x : Str} {g : List D → M D} {np n : Nat} {fs : Env → M (List D)}
theorem AfterR.sig {α β : Type} {C : Cfg} {R : Zn → Hp → α → β → Prop} {W : WX} {σ : L2.St} {ρ : Zn} {H : Hp} {ro : List D} {o : Out α} {Q : β → Hp → Prop} (h : AfterR C R W σ ρ H ro o Q) : AfterR C R (fun c d _ H => W c d σ H) [] ρ H ro o Q := by
  cases o with
  | ok d w => exact h
  | exn c ns xs w => exact h
  | no => exact h
theorem pf_call (F : CallX X n x g np) (hr : Room n X.A) (hx : PassW X W) (hg : Gl X x) (ha : PA X (e :: es) (tA (cfg X) W fs)) (hdb : (x == ("__debug__" : Str)) = false := by decide) (hl : ∀ ds : List D, ds.length = np → True := by intros; trivial)
    (he : starEach (e :: es) X.env = (false, eval e X.env) :: starEach es X.env := by rfl) (hpl : (backTo pos (starEach es X.env)).any (·.1) = false := by rfl) : PE X (.Call (.Name x p) (e :: es) [] pos) (tE (cfg X) W (cCall (fun ds => if ds.length = np then g ds else M.no) fs)) := by
  obtain ⟨a, fd, ps, hm, hk, hb, hps, ok⟩ := F.ex
  refine pe_imp (pe_callS ok hr hg hm hk hb hx ha hdb he hpl) fun σ H Q ⟨ρ, env, ro, w, hS, hE, q⟩ => ?_
  refine tR_seq hS hE q fun ds w1 vs ρ1 H1 x1 s1 r1 q1 => ?_
  by_cases c : ds.length = np
  · rw [if_pos c] at q1
    exact ⟨ρ1, ds, ro, w1, by rw [← r1.len]; exact c, s1, r1, q1.sig⟩
  · rw [if_neg c] at q1
    exact (show False from q1).elim
def cCall0 (g : List D → M D) : EF := fun _ => g []
theorem pf_call0 (F : CallX X n x g 0) (hr : Room n X.A) (hx : PassW X W) (hg : Gl X x) (hdb : (x == ("__debug__" : Str)) = false := by decide) : PE X (.Call (.Name x p) [] [] pos) (tE (cfg X) W (cCall0 g)) := by
  obtain ⟨a, fd, ps, hm, hk, hb, hps, ok⟩ := F.ex
  refine ⟨fun pins s σ H Q I ⟨ρ, env, ro, w, hS, hE, q⟩ => ?_⟩
  refine wpAny_Call_Name_kw (ld_glob I hg hm ?_ hdb)
  exact PySem.W.callWith_K0 I.kIn hk (run_fnS (us := []) ok hr hb (hx σ) I .nil ⟨ρ, [], ro, w, rfl, hS, rfl, q.sig⟩)
end

/-! ### a def by its body -/
def runDef (np N : Nat) (body : SF) : List D → M D := fun ds ro w => if ds.length = np then (match body (ds.map some ++ List.replicate (N - np) none) ro w with
  | .go .nx _ w' => .ok .non w'
  | .go (.rt d) _ w' => .ok d w'
  | .exn c ns xs _ w' => .exn c ns xs w'
  | _ => .no) else .no
theorem reps_start {C : Cfg} {ρ : Zn} {H : Hp} {N : List Str} {ds : List D} {vs : List V} (r : Reps C ρ H ds vs) : RepE C ρ H (ds.map some ++ List.replicate (N.length - ds.length) none) (L2.start N vs) := by
  unfold L2.start
  refine ⟨by simp [r.len], fun i d e => ?_⟩
  by_cases hi : i < ds.length
  · rw [List.getElem?_append_left (by simpa using hi), List.getElem?_map] at e
    cases q : ds[i]? with
    | none =>
      rw [q] at e
      cases e
    | some d' =>
      rw [q] at e
      cases e
      obtain ⟨v, h1, h2⟩ := r.get q
      have hv := (List.getElem?_eq_some_iff.mp h1).1
      exact ⟨v, by rw [List.getElem?_append_left (by simpa using hv), List.getElem?_map, h1]; rfl, h2⟩
  · rw [List.getElem?_append_right (by simpa using hi), List.getElem?_replicate] at e
    split at e <;> cases e
section
variable {P : Program} {w : World} {K : PySem.W.Frag} {mg : Str → Option Value} {base : Heap}
theorem def_ok {x qual : Str} {st : Stmt} {f : Addr} {fd : FuncData} {N ps : List Str} {k : Nat} {body : SF} (F : Fun K x qual st f fd) (S : FnScope N ps (defScope st))
    (h : ∀ (cdv : Value) (A : Around) (outer : List PySem.Env) (s : Shared) (H : Hp) (E : XK), Room k (A.deeper (PyProof.Rows.envOfC qual (defScope st) s.heap.objs.size f cdv)) →
      PSs (cxOf (L2.CX P w) P w K mg base N qual (defScope st) f cdv A outer s H E) (defBody st) (tS ⟨K, mg, w⟩ (fun c d _ H => E c d H) body)) :
    FnOk P w K mg base (L2.CX P w) (k + 1) f fd ps (spF ⟨K, mg, w⟩ (runDef ps.length N.length body) ps.length) := by
  refine F.okX S (fun vs H Q E h => ?_) fun cdv A outer s H vs Q E hr hsp => ?_
  · obtain ⟨ρ, ds, ro, w, hl, _⟩ := h
    exact hl
  · refine ⟨_, h cdv A outer s H E hr, ?_⟩
    obtain ⟨ρ, ds, ro, wl, hl, hS, hR, q⟩ := hsp
    have hdl : ds.length = ps.length := by rw [hR.len]; exact hl
    refine ⟨ρ, ds.map some ++ List.replicate (N.length - ds.length) none, ro, wl, hS, reps_start hR, ?_⟩
    unfold runDef at q
    rw [if_pos hdl, ← hdl] at q
    cases e : body (ds.map some ++ List.replicate (N.length - ds.length) none) ro wl with
    | no =>
      rw [e] at q
      exact q
    | exn c ns xs env w' =>
      rw [e] at q
      exact fun cls dx σ' ρ' H' x s e2 rx => q cls dx ρ' H' x s rx
    | go fl env w' =>
      rw [e] at q
      cases fl with
      | nx => exact fun σ' ρ' H' x s e2 => q .non ρ' H' x s rfl
      | rt d => exact fun v ρ' H' x s r => q v ρ' H' x s r
      | bk => exact (show False from q).elim
      | ct => exact (show False from q).elim
/-- nothing is promised -/
theorem no_ok {f : Addr} {fd : FuncData} {ps : List Str} {k : Nat} : FnOk P w K mg base (L2.CX P w) k f fd ps (spF ⟨K, mg, w⟩ (fun _ => M.no) ps.length) := by
  have no : ∀ vs H Q E, ¬ spF ⟨K, mg, w⟩ (fun _ => M.no) ps.length vs H Q E := fun vs H Q E h => by
    obtain ⟨ρ, ds, ro, w, _, _, _, q⟩ := h
    exact q
  exact ⟨fun vs H Q E h => absurd h (no vs H Q E), fun A outer s H args us vs Q E _ _ _ _ h => absurd h (no vs H Q E)⟩
end

/-! ### things that end with a call -/
mutual
/-- the changing objects told by φ -/
def D.tell (φ : Nat → Option D) : D → Option D
  | .ref n => φ n
  | .tup ds => (D.tells φ ds).map .tup
  | .lst ds => (D.tells φ ds).map .lst
  | .dic ks ds => (D.tells φ ds).map (.dic ks)
  | .dct ks ds => (D.tells φ ds).map (.dct ks)
  | .ins c ns ds => (D.tells φ ds).map (.ins c ns)
  | d => some d
def D.tells (φ : Nat → Option D) : List D → Option (List D)
  | [] => some []
  | d :: ds => match D.tell φ d, D.tells φ ds with
    | some d', some ds' => some (d' :: ds')
    | _, _ => none
end
/-- n: how many objects the caller has; w: the own ones -/
def told (n : Nat) (w : List D) : Nat → Nat → Option D
  | 0, m => if m < n then some (.ref m) else none
  | k + 1, m => if m < n then some (.ref m) else match w[m - n]? with
    | some o => D.tell (told n w k) o
    | none => none
mutual
def D.under (n : Nat) : D → Bool
  | .ref m => decide (m < n)
  | .tup ds => D.unders n ds
  | .lst ds => D.unders n ds
  | .dic _ ds => D.unders n ds
  | .dct _ ds => D.unders n ds
  | .ins _ _ ds => D.unders n ds
  | _ => true
def D.unders (n : Nat) : List D → Bool
  | [] => true
  | d :: ds => D.under n d && D.unders n ds
end
section
variable {C : Cfg} {ρ ρ' : Zn} {H H' : Hp} {n : Nat}
abbrev Zn.take (ρ : Zn) (n : Nat) : Zn := ⟨ρ.r.take n, ρ.h⟩
theorem Out.take {a : Addr} (h : ρ.Out a) : (ρ.take n).Out a := ⟨fun z => h.1 (List.mem_of_mem_take z), h.2⟩
theorem Still.take {a : Addr} {u : HO} (h : Still ρ H a u) : Still (ρ.take n) H a u := ⟨Out.take h.1, h.2⟩
mutual
/-- what is a key holds nothing that changes -/
theorem Rep.ktrunc : ∀ (d : D) {v : V} {κ : NestedKey}, toKey d = some κ → Rep C ρ H d v → Rep C (ρ.take n) H d v
  | .int _, v, κ, _, h => h
  | .str _, v, κ, _, h => h
  | .tup ds, v, κ, e, ⟨a, vs, e1, h1, r⟩ => by
    unfold toKey at e
    cases q : toKeys ds with
    | none => rw [q] at e; cases e
    | some ks => exact ⟨a, vs, e1, h1.imp Still.take id, Reps.ktrunc ds q r⟩
  | .non, v, κ, e, _ => by cases e
  | .bl _, v, κ, e, _ => by cases e
  | .fn _, v, κ, e, _ => by cases e
  | .ref _, v, κ, e, _ => by cases e
  | .lst _, v, κ, e, _ => by cases e
  | .dic _ _, v, κ, e, _ => by cases e
  | .dct _ _, v, κ, e, _ => by cases e
  | .ins _ _ _, v, κ, e, _ => by cases e
theorem Reps.ktrunc : ∀ (ds : List D) {vs : List V} {ks : List NestedKey}, toKeys ds = some ks → Reps C ρ H ds vs → Reps C (ρ.take n) H ds vs
  | [], vs, ks, _, h => h
  | d :: ds, vs, ks, e, ⟨v, r, ev, h1, h2⟩ => by
    unfold toKeys at e
    cases q1 : toKey d with
    | none => simp only [q1] at e; cases e
    | some d1 =>
      cases q2 : toKeys ds with
      | none => simp only [q1, q2] at e; cases e
      | some ds2 => exact ⟨v, r, ev, Rep.ktrunc d q1 h1, Reps.ktrunc ds q2 h2⟩
end
theorem DEnts.trunc {w : World} {es : List DictEntry} {ks : List D} {as : List Addr} {vs : List V} (en : DEnts w es ks as vs) : Reps C ρ H ks (as.map .ref) → Reps C (ρ.take n) H ks (as.map .ref) := by
  induction en with
  | nil => exact id
  | cons h1 _ _ _ _ _ ih =>
    rintro ⟨v, r, ev, k1, k2⟩
    simp only [List.map_cons, List.cons.injEq] at ev
    obtain ⟨e1, e2⟩ := ev
    subst e1 e2
    exact ⟨_, _, rfl, Rep.ktrunc _ h1 k1, ih k2⟩
mutual
theorem Rep.tell {φ : Nat → Option D} (hφ : ∀ m d v, φ m = some d → Rep C ρ H (.ref m) v → Rep C (ρ.take n) H d v) : ∀ (d : D) {d' : D} {v : V}, D.tell φ d = some d' → Rep C ρ H d v → Rep C (ρ.take n) H d' v
  | .non, d', v, e, h => by cases e; exact h
  | .bl b, d', v, e, h => by cases e; exact h
  | .int b, d', v, e, h => by cases e; exact h
  | .str b, d', v, e, h => by cases e; exact h
  | .fn b, d', v, e, h => by cases e; exact h
  | .ref m, d', v, e, h => hφ m d' v e h
  | .tup ds, d', v, e, h => by
    unfold D.tell at e
    cases q : D.tells φ ds with
    | none => rw [q] at e; cases e
    | some ds' =>
      rw [q] at e
      cases e
      obtain ⟨a, vs, e1, h1, r⟩ := h
      exact ⟨a, vs, e1, h1.imp Still.take id, Reps.tell hφ ds q r⟩
  | .lst ds, d', v, e, h => by
    unfold D.tell at e
    cases q : D.tells φ ds with
    | none => rw [q] at e; cases e
    | some ds' =>
      rw [q] at e
      cases e
      obtain ⟨a, vs, e1, h1, r⟩ := h
      exact ⟨a, vs, e1, h1.imp Still.take id, Reps.tell hφ ds q r⟩
  | .dic ks ds, d', v, e, h => by
    unfold D.tell at e
    cases q : D.tells φ ds with
    | none => rw [q] at e; cases e
    | some ds' =>
      rw [q] at e
      cases e
      obtain ⟨a, kvs, e1, h1, k, r⟩ := h
      exact ⟨a, kvs, e1, Still.take h1, k, Reps.tell hφ ds q r⟩
  | .dct ks ds, d', v, e, h => by
    unfold D.tell at e
    cases q : D.tells φ ds with
    | none => rw [q] at e; cases e
    | some ds' =>
      rw [q] at e
      cases e
      obtain ⟨a, es, ep, as, vs, e1, h1, en, nd, rk, r⟩ := h
      exact ⟨a, es, ep, as, vs, e1, Still.take h1, en, nd, en.trunc rk, Reps.tell hφ ds q r⟩
  | .ins c ns ds, d', v, e, h => by
    unfold D.tell at e
    cases q : D.tells φ ds with
    | none => rw [q] at e; cases e
    | some ds' =>
      rw [q] at e
      cases e
      obtain ⟨a, A, dx, fs, e1, m, nn, h1, k, r⟩ := h
      exact ⟨a, A, dx, fs, e1, m, Out.take nn, h1, k, Reps.tell hφ ds q r⟩
theorem Reps.tell {φ : Nat → Option D} (hφ : ∀ m d v, φ m = some d → Rep C ρ H (.ref m) v → Rep C (ρ.take n) H d v) : ∀ (ds : List D) {ds' : List D} {vs : List V}, D.tells φ ds = some ds' → Reps C ρ H ds vs → Reps C (ρ.take n) H ds' vs
  | [], ds', vs, e, h => by cases e; exact h
  | d :: ds, ds', vs, e, ⟨v, r, ev, h1, h2⟩ => by
    unfold D.tells at e
    cases q1 : D.tell φ d with
    | none => simp only [q1] at e; cases e
    | some d1 =>
      cases q2 : D.tells φ ds with
      | none => simp only [q1, q2] at e; cases e
      | some ds2 =>
        simp only [q1, q2] at e
        cases e
        exact ⟨v, r, ev, Rep.tell hφ d q1 h1, Reps.tell hφ ds q2 h2⟩
end
mutual
theorem Rep.below : ∀ (d : D) {v : V}, Rep C ρ H d v → D.under ρ.r.length d = true
  | .non, v, h => rfl
  | .bl b, v, h => rfl
  | .int b, v, h => rfl
  | .str b, v, h => rfl
  | .fn b, v, h => rfl
  | .ref m, v, ⟨a, e, _⟩ => decide_eq_true (List.getElem?_eq_some_iff.mp e).1
  | .tup ds, v, ⟨a, vs, _, _, r⟩ => Reps.below ds r
  | .lst ds, v, ⟨a, vs, _, _, r⟩ => Reps.below ds r
  | .dic ks ds, v, ⟨a, kvs, _, _, _, r⟩ => Reps.below ds r
  | .dct ks ds, v, ⟨a, es, ep, as, vs, _, _, _, _, _, r⟩ => Reps.below ds r
  | .ins c ns ds, v, ⟨a, A, dx, fs, _, _, _, _, _, r⟩ => Reps.below ds r
theorem Reps.below : ∀ (ds : List D) {vs : List V}, Reps C ρ H ds vs → D.unders ρ.r.length ds = true
  | [], vs, h => rfl
  | d :: ds, vs, ⟨v, r, _, h1, h2⟩ => by
    unfold D.unders
    rw [Rep.below d h1, Reps.below ds h2]
    rfl
end
mutual
theorem Rep.trunc : ∀ (d : D) {v : V}, D.under n d = true → Rep C ρ H d v → Rep C (ρ.take n) H d v
  | .non, v, _, h => h
  | .bl b, v, _, h => h
  | .int b, v, _, h => h
  | .str b, v, _, h => h
  | .fn b, v, _, h => h
  | .ref m, v, b, ⟨a, e, e2⟩ => ⟨a, by
    show (ρ.r.take n)[m]? = _
    rw [List.getElem?_take_of_lt (of_decide_eq_true b)]
    exact e, e2⟩
  | .tup ds, v, b, ⟨a, vs, e, h, r⟩ => ⟨a, vs, e, h.imp Still.take id, Reps.trunc ds b r⟩
  | .lst ds, v, b, ⟨a, vs, e, h, r⟩ => ⟨a, vs, e, h.imp Still.take id, Reps.trunc ds b r⟩
  | .dic ks ds, v, b, ⟨a, kvs, e, h, k, r⟩ => ⟨a, kvs, e, Still.take h, k, Reps.trunc ds b r⟩
  | .dct ks ds, v, b, ⟨a, es, ep, as, vs, e, h, en, nd, rk, r⟩ => ⟨a, es, ep, as, vs, e, Still.take h, en, nd, en.trunc rk, Reps.trunc ds b r⟩
  | .ins c ns ds, v, b, ⟨a, A, dx, fs, e, m, nn, h, k, r⟩ => ⟨a, A, dx, fs, e, m, Out.take nn, h, k, Reps.trunc ds b r⟩
theorem Reps.trunc : ∀ (ds : List D) {vs : List V}, D.unders n ds = true → Reps C ρ H ds vs → Reps C (ρ.take n) H ds vs
  | [], vs, _, h => h
  | d :: ds, vs, b, ⟨v, r, e, h1, h2⟩ => by
    have b' : D.under n d = true ∧ D.unders n ds = true := by simpa [D.unders] using b
    exact ⟨v, r, e, Rep.trunc d b'.1 h1, Reps.trunc ds b'.2 h2⟩
end
theorem RepO.below {d : D} {a : Addr} (h : RepO C ρ H d a) : D.under ρ.r.length d = true := by
  cases d with
  | lst ds => obtain ⟨vs, _, r⟩ := h; exact Reps.below ds r
  | dic ks ds => obtain ⟨vs, _, _, r⟩ := h; exact Reps.below ds r
  | dct ks ds => obtain ⟨es, ep, as, vs, _, _, _, _, r⟩ := h; exact Reps.below ds r
  | ins c ns ds => obtain ⟨A, dx, fs, _, _, _, r⟩ := h; exact Reps.below ds r
  | _ => exact (show False from h).elim
theorem RepO.trunc {d : D} {a : Addr} (b : D.under n d = true) (h : RepO C ρ H d a) : RepO C (ρ.take n) H d a := by
  cases d with
  | lst ds => obtain ⟨vs, e, r⟩ := h; exact ⟨vs, e, Reps.trunc ds b r⟩
  | dic ks ds => obtain ⟨vs, e, k, r⟩ := h; exact ⟨vs, e, k, Reps.trunc ds b r⟩
  | dct ks ds => obtain ⟨es, ep, as, vs, e, en, nd, rk, r⟩ := h; exact ⟨es, ep, as, vs, e, en, nd, en.trunc rk, Reps.trunc ds b r⟩
  | ins c ns ds => obtain ⟨A, dx, fs, m, e, k, r⟩ := h; exact ⟨A, dx, fs, m, e, k, Reps.trunc ds b r⟩
  | _ => exact (show False from h).elim
theorem RepS.take {w : List D} (hS : RepS C ρ H w) (hb : ∀ i d, i < n → w[i]? = some d → D.under n d = true) : RepS C (ρ.take n) H (w.take n) := by
  refine ⟨by simp [hS.len], hS.nd.sublist (List.take_sublist _ _), fun i a d h1 h2 => ?_, fun a ha => ⟨fun z => (hS.hid a ha).1 (List.mem_of_mem_take z), (hS.hid a ha).2⟩⟩
  have hi : i < n := by
    have := (List.getElem?_eq_some_iff.mp h2).1
    rw [List.length_take] at this
    omega
  replace h1 : (ρ.r.take n)[i]? = some a := h1
  rw [List.getElem?_take_of_lt hi] at h1 h2
  exact RepO.trunc (hb i d hi h2) (hS.obj i a d h1 h2)
theorem told_ok {ro w : List D} (hS : RepS C ρ H (ro ++ w)) : ∀ (k m : Nat) (d : D) (v : V), told ro.length w k m = some d → Rep C ρ H (.ref m) v → Rep C (ρ.take ro.length) H d v
  | 0, m, d, v, e, h => by
    unfold told at e
    by_cases c : m < ro.length
    · rw [if_pos c] at e
      cases e
      exact Rep.trunc (.ref m) (decide_eq_true c) h
    · rw [if_neg c] at e
      cases e
  | k + 1, m, d, v, e, h => by
    unfold told at e
    by_cases c : m < ro.length
    · rw [if_pos c] at e
      cases e
      exact Rep.trunc (.ref m) (decide_eq_true c) h
    · rw [if_neg c] at e
      cases q : w[m - ro.length]? with
      | none => rw [q] at e; cases e
      | some o =>
        rw [q] at e
        obtain ⟨a, ha, rfl⟩ := h
        have hm : (ro ++ w)[m]? = some o := by
          rw [List.getElem?_append_right (by omega)]
          exact q
        have hO := hS.obj m a o ha hm
        have an : (ρ.take ro.length).Out a := by
          refine ⟨fun z => ?_, fun z => (hS.hid a z).1 (List.mem_of_getElem? ha)⟩
          obtain ⟨j, hj, ej⟩ := List.mem_iff_getElem.mp z
          rw [List.length_take] at hj
          rw [List.getElem_take] at ej
          obtain ⟨hm', em⟩ := List.getElem?_eq_some_iff.mp ha
          have := (List.getElem_inj hS.nd).mp (ej.trans em.symm)
          omega
        cases o with
        | lst ds =>
          replace e : D.tell (told ro.length w k) (.lst ds) = some d := e
          unfold D.tell at e
          cases q2 : D.tells (told ro.length w k) ds with
          | none => rw [q2] at e; cases e
          | some ds' =>
            rw [q2] at e
            cases e
            obtain ⟨vs, e1, r⟩ := hO
            exact ⟨a, vs, rfl, .inl ⟨an, .inl e1⟩, Reps.tell (told_ok hS k) ds q2 r⟩
        | dic ks ds =>
          replace e : D.tell (told ro.length w k) (.dic ks ds) = some d := e
          unfold D.tell at e
          cases q2 : D.tells (told ro.length w k) ds with
          | none => rw [q2] at e; cases e
          | some ds' =>
            rw [q2] at e
            cases e
            obtain ⟨kvs, e1, kk, r⟩ := hO
            exact ⟨a, kvs, rfl, ⟨an, .inl e1⟩, kk, Reps.tell (told_ok hS k) ds q2 r⟩
        | dct ks ds =>
          replace e : D.tell (told ro.length w k) (.dct ks ds) = some d := e
          unfold D.tell at e
          cases q2 : D.tells (told ro.length w k) ds with
          | none => rw [q2] at e; cases e
          | some ds' =>
            rw [q2] at e
            cases e
            obtain ⟨es, ep, as, vs, e1, en, nd, rk, r⟩ := hO
            exact ⟨a, es, ep, as, vs, rfl, ⟨an, .inl e1⟩, en, nd, en.trunc rk, Reps.tell (told_ok hS k) ds q2 r⟩
        | ins c ns ds =>
          replace e : D.tell (told ro.length w k) (.ins c ns ds) = some d := e
          unfold D.tell at e
          cases q2 : D.tells (told ro.length w k) ds with
          | none => rw [q2] at e; cases e
          | some ds' =>
            rw [q2] at e
            cases e
            obtain ⟨A, dx, fs, mm, e1, kk, r⟩ := hO
            exact ⟨a, A, dx, fs, rfl, mm, an, e1, kk, Reps.tell (told_ok hS k) ds q2 r⟩
        | _ => exact (show False from hO).elim
end
/-- a def that changes nothing of its caller's: it sees them, and what it makes ends with it -/
def pureD (g : List D → M D) : List D → M D := fun ds ro w => match g ds (ro ++ w) [] with
  | .ok d w' => (match D.tell (told (ro ++ w).length w' 4) d with
    | some d' => .ok d' w
    | none => .no)
  | .exn c ns xs w' => (match D.tells (told (ro ++ w).length w' 4) xs with
    | some xs' => .exn c ns xs' w
    | none => .no)
  | .no => .no
section
variable {P : Program} {w : World} {K : PySem.W.Frag} {mg : Str → Option Value} {base : Heap}
theorem RepX.tell {C : Cfg} {ρ : Zn} {H : Hp} {n : Nat} {φ : Nat → Option D} (hφ : ∀ m d v, φ m = some d → Rep C ρ H (.ref m) v → Rep C (ρ.take n) H d v) {c : Str} {ns : List Str} {xs xs' : List D} {cls : Value} {dx : Option Addr} (e : D.tells φ xs = some xs') (h : RepX C ρ H c ns xs cls dx) : RepX C (ρ.take n) H c ns xs' cls dx := by
  obtain ⟨A, h1, h2, h3⟩ := h
  refine ⟨A, h1, h2, ?_⟩
  rcases h3 with ⟨e1, e2, e3⟩ | ⟨d, fs, e1, e0, e2, e3, e4, r⟩
  · subst e2
    cases e
    exact .inl ⟨e1, rfl, e3⟩
  · exact .inr ⟨d, fs, e1, e0, Out.take e2, e3, e4, Reps.tell hφ xs e r⟩
theorem pure_ok {f : Addr} {fd : FuncData} {ps : List Str} {k np : Nat} {g : List D → M D} (F : FnOk P w K mg base (L2.CX P w) k f fd ps (spF ⟨K, mg, w⟩ g np)) : FnOk P w K mg base (L2.CX P w) k f fd ps (spF ⟨K, mg, w⟩ (pureD g) np) := by
  refine F.imp fun vs H Q E ⟨ρ, ds, ro, v, hl, hS, hR, q⟩ => ⟨ρ, ds, ro ++ v, [], hl, by rw [List.append_nil]; exact hS, hR, ?_⟩
  have hlen : ρ.r.length = (ro ++ v).length := hS.len
  -- what stands behind, without the own objects
  have back : ∀ {ρ' : Zn} {H' : Hp} {w' : List D}, Ext ρ ρ' H H' → RepS ⟨K, mg, w⟩ ρ' H' ((ro ++ v) ++ w') → Ext ρ (ρ'.take (ro ++ v).length) H H' ∧ RepS ⟨K, mg, w⟩ (ρ'.take (ro ++ v).length) H' (ro ++ v) := by
    intro ρ' H' w' x s
    obtain ⟨⟨ν, p⟩, h1, k1, m1⟩ := x
    refine ⟨⟨⟨[], ?_⟩, h1, fun a o e n => ⟨(k1 a o e n).1, Out.take (k1 a o e n).2⟩, m1⟩, ?_⟩
    · show ρ'.r.take _ = _
      rw [p, ← hlen, List.take_left', List.append_nil]
      rfl
    · have z := RepS.take (n := (ro ++ v).length) s fun i d hi hd => ?_
      · rw [List.take_left'] at z
        · exact z
        · rfl
      · rw [List.getElem?_append_left hi] at hd
        have hr : i < ρ.r.length := by rw [hlen]; exact hi
        have := RepO.below (hS.obj i _ d (List.getElem?_eq_getElem hr) hd)
        rw [hlen] at this
        exact this
  unfold pureD at q
  cases e : g ds (ro ++ v) [] with
  | no =>
    simp only [e] at q
    exact q
  | ok d w' =>
    simp only [e] at q
    cases et : D.tell (told (ro ++ v).length w' 4) d with
    | none =>
      simp only [et] at q
      exact (show False from q).elim
    | some d' =>
      simp only [et] at q
      intro v ρ' H' x s r
      obtain ⟨x2, s2⟩ := back x s
      exact q v _ H' x2 s2 (Rep.tell (told_ok s 4) d et r)
  | exn c ns xs w' =>
    simp only [e] at q
    cases et : D.tells (told (ro ++ v).length w' 4) xs with
    | none =>
      simp only [et] at q
      exact (show False from q).elim
    | some xs' =>
      simp only [et] at q
      intro cls dx ρ' H' x s r
      obtain ⟨x2, s2⟩ := back x s
      exact q cls dx _ H' x2 s2 (RepX.tell (told_ok s 4) et r)
end
end Fx
namespace Fx
open PySem PySem.Spec L2

/-! ### in, not in -/
def D.sc : D → Bool
  | .non => true | .bl _ => true | .int _ => true | .str _ => true
  | _ => false
def D.eqs : D → D → Bool
  | .non, .non => true
  | .bl a, .bl b => a == b
  | .bl a, .int b => (if a then 1 else 0) == b
  | .int a, .bl b => a == (if b then 1 else 0)
  | .int a, .int b => a == b
  | .str a, .str b => a == b
  | _, _ => false
section
variable {C : Cfg} {ρ : Zn} {H : Hp}
theorem Rep.sc {d : D} {v : V} (h : d.sc = true) (r : Rep C ρ H d v) : flatV v = true := by
  cases d with
  | non => rw [show v = .non from r]; rfl
  | bl b => rw [show v = .bl b from r]; rfl
  | int b => rw [show v = .int b from r]; rfl
  | str b => rw [show v = .str b from r]; rfl
  | _ => cases h
theorem Rep.eqs {d e : D} {v u : V} (h : d.sc = true) (h' : e.sc = true) (r : Rep C ρ H d v) (r' : Rep C ρ H e u) : eqV v u = d.eqs e := by
  cases d with
  | non =>
    rw [show v = .non from r]
    cases e with
    | non => rw [show u = .non from r']; rfl
    | bl b => rw [show u = .bl b from r']; rfl
    | int b => rw [show u = .int b from r']; rfl
    | str b => rw [show u = .str b from r']; rfl
    | _ => cases h'
  | bl b =>
    rw [show v = .bl b from r]
    cases e with
    | non => rw [show u = .non from r']; rfl
    | bl b => rw [show u = .bl b from r']; rfl
    | int b => rw [show u = .int b from r']; rfl
    | str b => rw [show u = .str b from r']; rfl
    | _ => cases h'
  | int b =>
    rw [show v = .int b from r]
    cases e with
    | non => rw [show u = .non from r']; rfl
    | bl b => rw [show u = .bl b from r']; rfl
    | int b => rw [show u = .int b from r']; rfl
    | str b => rw [show u = .str b from r']; rfl
    | _ => cases h'
  | str b =>
    rw [show v = .str b from r]
    cases e with
    | non => rw [show u = .non from r']; rfl
    | bl b => rw [show u = .bl b from r']; rfl
    | int b => rw [show u = .int b from r']; rfl
    | str b => rw [show u = .str b from r']; rfl
    | _ => cases h'
  | _ => cases h
theorem Reps.sc : ∀ {ds : List D} {vs : List V}, ds.all D.sc = true → Reps C ρ H ds vs → vs.all flatV = true
  | [], vs, _, h => by
    cases (show vs = [] from h)
    rfl
  | d :: ds, vs, h, ⟨v, r, e, h1, h2⟩ => by
    subst e
    rw [List.all_cons, Bool.and_eq_true] at h ⊢
    exact ⟨Rep.sc h.1 h1, Reps.sc h.2 h2⟩
theorem Reps.inV {e : D} {u : V} (h' : e.sc = true) (r' : Rep C ρ H e u) : ∀ {ds : List D} {vs : List V}, ds.all D.sc = true → Reps C ρ H ds vs → L2.inV u vs = ds.any fun d => d.eqs e
  | [], vs, _, h => by
    cases (show vs = [] from h)
    rfl
  | d :: ds, vs, h, ⟨v, r, eq, h1, h2⟩ => by
    subst eq
    rw [List.all_cons, Bool.and_eq_true] at h
    unfold L2.inV
    rw [List.any_cons, List.any_cons, Rep.eqs h.1 h' h1 r']
    congr 1
    exact Reps.inV h' r' h.2 h2
end
def isSign (x : Str) : Option Nat := match x.cps.toList with
  | [c] => some c
  | _ => none
theorem isSign_eq {x : Str} {c : Nat} (h : isSign x = some c) : x = ⟨#[c]⟩ := by
  unfold isSign at h
  split at h
  · rename_i q
    cases h
    obtain ⟨a⟩ := x
    obtain ⟨l⟩ := a
    simp only at q
    subst q
    rfl
  · cases h
/-- x in y -/
def inD (x y : D) : Option Bool := match y with
  | .tup ds => if x.sc && ds.all D.sc then some (ds.any fun d => d.eqs x) else none
  | .lst ds => if x.sc && ds.all D.sc then some (ds.any fun d => d.eqs x) else if x.cmp && (D.lst ds).cmp then some (ds.any fun d => PyData.eqv d.py x.py) else none
  | .str z => match x with
    | .str c => match isSign c with
      | some k => some (decide (k ∈ z.cps.toList))
      | none => none
    | _ => none
  | _ => none
def gIn (x y : D) : M D := fun _ w => match inD x y with
  | some b => .ok (.bl b) w
  | none => .no
def gNotIn (x y : D) : M D := fun _ w => match inD x y with
  | some b => .ok (.bl (!b)) w
  | none => .no
def rInF (K : PySem.W.Frag) (neg : Bool) : R2 := fun x y H Q => rIn K neg x y H Q ∨ (if neg then rNotInD K x y H Q else rInD K x y H Q) ∨ (∃ (c : Nat) (z : Str), x = .str ⟨#[c]⟩ ∧ y = .str z ∧ Q (.bl (if neg then !decide (c ∈ z.cps.toList) else decide (c ∈ z.cps.toList))) H)
section
variable {X : Cx} {C : Cfg}
theorem opf_in (hu : X.A.units + 65 < cLine) : OpR X (compareOp .In) (rInF X.K false) := op_in_seq.or ((op_inD hu).or op_in_sign)
theorem opf_notIn (hu : X.A.units + 65 < cLine) : OpR X (compareOp .NotIn) (rInF X.K true) := op_notIn_seq.or ((op_notInD hu).or op_notIn_sign)
theorem any_pys {x : D} : ∀ ds : List D, (D.pys ds).any (fun z => PyData.eqv z x.py) = ds.any fun d => PyData.eqv d.py x.py
  | [] => rfl
  | d :: ds => by
    show (d.py :: D.pys ds).any _ = _
    rw [List.any_cons, List.any_cons, any_pys ds]
theorem in_core {ρ : Zn} {H : Hp} {d e : D} {x y : V} {b : Bool} (neg : Bool) {Q : VK} (hd : Seen C ρ H d x) (he : Seen C ρ H e y) (h : inD d e = some b) (q : Q (.bl (if neg then !b else b)) H) : rInF C.K neg x y H Q := by
  have scal : d.sc = true → Rep C ρ H d x := fun s => by
    rcases hd with h | ⟨a, _, h⟩
    · exact h
    · cases d <;> first | exact (show False from h).elim | cases s
  cases e with
  | tup ds =>
    unfold inD at h
    dsimp only at h
    by_cases c : (d.sc && ds.all D.sc) = true
    · rw [if_pos c] at h
      cases h
      rw [Bool.and_eq_true] at c
      obtain ⟨p, vs, rfl, hp, r⟩ := he.tup
      refine .inl ⟨p, vs, rfl, .inr hp, Rep.sc c.1 (scal c.1), r.sc c.2, ?_⟩
      rw [Reps.inV c.1 (scal c.1) c.2 r]
      exact q
    · rw [if_neg c] at h
      cases h
  | lst ds =>
    unfold inD at h
    dsimp only at h
    obtain ⟨p, vs, rfl, hp, r⟩ := he.lst
    by_cases c : (d.sc && ds.all D.sc) = true
    · rw [if_pos c] at h
      cases h
      rw [Bool.and_eq_true] at c
      refine .inl ⟨p, vs, rfl, .inl hp, Rep.sc c.1 (scal c.1), r.sc c.2, ?_⟩
      rw [Reps.inV c.1 (scal c.1) c.2 r]
      exact q
    · rw [if_neg c] at h
      by_cases c2 : (d.cmp && (D.lst ds).cmp) = true
      · rw [if_pos c2] at h
        cases h
        rw [Bool.and_eq_true] at c2
        obtain ⟨f1, s1⟩ := Bool.and_eq_true_iff.mp c2.1
        obtain ⟨f2, s2⟩ := Bool.and_eq_true_iff.mp c2.2
        have h2 : Dp C.K H (.ref p) (.list (D.pys ds)) := .lst hp (Reps.dp ds (by simpa [D.flat] using f2) r)
        rw [← any_pys] at q
        cases neg with
        | false => exact .inr (.inl (by rw [if_neg Bool.false_ne_true]; exact ⟨d.py, D.pys ds, hd.dp f1, h2, s1, s2, q⟩))
        | true => exact .inr (.inl (by rw [if_pos rfl]; exact ⟨d.py, D.pys ds, hd.dp f1, h2, s1, s2, q⟩))
      · rw [if_neg c2] at h
        cases h
  | str z =>
    cases d with
    | str k =>
      unfold inD at h
      dsimp only at h
      cases hk : isSign k with
      | none =>
        rw [hk] at h
        cases h
      | some c =>
        rw [hk] at h
        cases h
        exact .inr (.inr ⟨c, z, by rw [hd.str, isSign_eq hk], he.str, q⟩)
    | _ => cases h
  | _ => cases h
theorem ok2_in : Ok2 C (rInF C.K false) gIn := by
  intro W σ ρ H ro w d e x y Q hS hd he q
  unfold gIn at q
  cases h : inD d e with
  | none =>
    rw [h] at q
    exact (show False from q).elim
  | some b =>
    rw [h] at q
    exact in_core false hd he h (ok_bl hS q)
theorem ok2_notIn : Ok2 C (rInF C.K true) gNotIn := by
  intro W σ ρ H ro w d e x y Q hS hd he q
  unfold gNotIn at q
  cases h : inD d e with
  | none =>
    rw [h] at q
    exact (show False from q).elim
  | some b =>
    rw [h] at q
    exact in_core true hd he h (ok_bl hS q)
theorem hu65 {k : Nat} {A : Around} (r : Room k A) : A.units + 65 < cLine := by
  have := r.un
  omega
end

/-! ### reversed(list) -/
section
variable {X : Cx} {W : WX} {pos p : Pos} {e tg : Expr} {fs : Env → M (List D)}
def gRev : List D → M (List D)
  | [.lst ds] => M.pure ds.reverse
  | _ => M.no
def cRev (fs : Env → M (List D)) : Env → M (List D) := fun env => M.bind (fs env) gRev
theorem walks_rev {K : PySem.W.Frag} {mg : Str → Option Value} {ρ : Zn} {H : Hp} {ds : List D} {a : Addr} {vs : List V} (h : Still ρ H a (.lst vs) ∨ KL K a vs) (r : Reps ⟨K, mg, w⟩ ρ H ds vs) : Walks ⟨K, mg, w⟩ ρ H ds.reverse (Itv K a vs.length) := by
  intro i ρ' H' u x s
  have h' : SqL K H' a vs := h.elim (fun h => .inl (Still.extR x h).2) .inr
  have r' := Reps.extR x ds r
  refine ⟨fun d e => ?_, fun e => ?_⟩
  · have hi := (List.getElem?_eq_some_iff.mp e).1
    rw [List.length_reverse] at hi
    rw [List.getElem?_reverse hi, r'.len] at e
    obtain ⟨y, h1, h2⟩ := r'.get e
    refine ⟨⟨by rw [← r'.len]; exact hi, vs, y, h', h1⟩, fun z H2 ⟨e2, g⟩ => ?_⟩
    subst e2
    have := g vs h'
    rw [h1] at this
    cases this
    exact ⟨.refl, s, h2⟩
  · have := List.getElem?_eq_none_iff.mp e
    rw [List.length_reverse, r'.len] at this
    exact this
theorem pfi_rev (hg : Gl X "reversed") (hm : X.mg "reversed" = none) (ha : PA X [e] (tA (cfg X) W fs)) (hs : starEach [e] X.env = [(false, eval e X.env)] := by rfl) : PI X tg (.Call (.Name "reversed" p) [e] [] pos) (tI (cfg X) W (cRev fs)) :=
  pi_imp (pi_reversed hg hm ha hs) fun σ H R ⟨ρ, env, ro, w, hS, hE, q⟩ => by
    refine tR_seq hS hE q fun ds w1 vs ρ1 H1 x1 s1 r1 q1 => ?_
    unfold gRev at q1
    split at q1
    · obtain ⟨v, r', e1, ⟨a, us, e2, hst, hr⟩, e3⟩ := r1
      cases (show r' = [] from e3)
      subst e1
      subst e2
      exact ⟨a, us, rfl, Still.sqL hst, q1 _ ρ1 H1 .refl s1 (walks_rev hst hr)⟩
    · exact (show False from q1).elim
end
end Fx
namespace Fx
open PySem PySem.Spec L2

/-- the end of a law's row: what the law's function gives -/
theorem law_end {l : PySem.W.OpenLaw} {q : Program} {loose : List Str} {XP : (Str → Option Value) → Heap → Prop} {YP : World → Heap → Prop} {d : DefRec} {K : Params → PySem.W.Frag} {x : Str} {N : Nat} {g : List D → M D}
    (hn : l.most = some 63) (hdf : d.params.defaults = []) (hr : Room N callerA)
    (hY : ∀ (w : World) (h : Heap), YP w h → (K w.params).In h)
    (F : ∀ (w : World) (mg : Str → Option Value) (fa : Addr) (h : Heap), (K w.params).In h → h.Ns mainGlobals mg → mg d.name = some (.ref fa) →
      ∃ fd : FuncData, (∀ (s : Shared) (u : Value), BindsTo s fd ⟨[u], []⟩ [(x, u)]) ∧
        ∀ base : Heap, (K w.params).In base → base.Ns mainGlobals mg → FnOk l.prog w (K w.params) mg base (L2.CX l.prog w) N fa fd [x] (spF ⟨K w.params, mg, w⟩ g 1))
    (hlaw : ∀ ns : List Int, ns.length ≤ 63 → ∃ w', g [.lst (ns.map .int)] [] [] = .ok (.bl true) w') :
    PySem.W.WalkO q loose XP YP l.row.toRowW d [] (fun f vs => PySem.call f vs) := by
  refine L2.walk_of (n := 63) (k := N) (x := x) (CX := fun w => L2.CX l.prog w) (sp := fun w vs H Q _ => ∃ (a : Addr) (ns : List Int), vs = [.ref a] ∧ SqL (K w.params) H a (ns.map V.int) ∧ ns.length ≤ 63 ∧ ∀ H', Q (.bl true) H')
    hn (by decide) hdf hr hY (fun w mg fa h KX G hm => ?_) (fun w H a ns hl _ hS => ⟨a, ns, rfl, hS, hl, fun _ => rfl⟩) (fun w H s e s' h => ?_)
  · obtain ⟨fd, hb, hF⟩ := F w mg fa h KX G hm
    refine ⟨fd, hb, fun base h1 h2 => (hF base h1 h2).imp fun vs H Q E ⟨a, ns, e, hS, hl, q⟩ => ?_⟩
    subst e
    obtain ⟨w', hw⟩ := hlaw ns hl
    have reps : ∀ ns : List Int, Reps ⟨K w.params, mg, w⟩ ⟨[], []⟩ H (ns.map D.int) (ns.map V.int) := fun ns => by
      induction ns with
      | nil => exact rfl
      | cons n ns ih => exact ⟨_, _, rfl, rfl, ih⟩
    refine ⟨⟨[], []⟩, [.lst (ns.map .int)], [], [], rfl, ⟨rfl, List.nodup_nil, fun i a d e => by simp at e, fun a ha => by cases ha⟩, Reps.one ⟨a, _, rfl, ?_, reps ns⟩, ?_⟩
    · rcases hS with h | h
      · exact .inl ⟨⟨by simp, by simp⟩, h⟩
      · exact .inr h
    · rw [hw]
      intro v ρ' H' _ _ r
      rw [show v = .bl true from r]
      exact q H'
  · obtain ⟨_, _, _, _, _, _, _, _, _, _, _, _, z⟩ := h
    exact z
/-- a written tuple of texts -/
theorem gk_texts {K : PySem.W.Frag} {mg : Str → Option Value} {x : Str} {t : Addr} {dd : Option Addr} {sl : Array (Option Value)} {ep : Nat} {xs : List Str} {its : List Value} (hm : mg x = some (.ref t)) (hk : K.lookup t = some ⟨.type "tuple", dd, .seq its.toArray ep, sl⟩)
    (hv : Vals (xs.map V.str) its) (hl : xs.length ≤ 1000) : GK ⟨K, mg, w⟩ x (.tup (xs.map D.str)) := by
  have e := hv.length
  rw [List.length_map] at e
  have reps : ∀ (xs : List Str) (C : Cfg) (ρ : Zn) (H : Hp), Reps C ρ H (xs.map D.str) (xs.map V.str) := fun xs C ρ H => by
    induction xs with
    | nil => exact rfl
    | cons n ns ih => exact ⟨_, _, rfl, rfl, ih⟩
  exact ⟨.ref t, .ref t, hm, rfl, fun ρ H => ⟨t, _, rfl, .inr ⟨_, its.toArray, ep, hk, rfl, rfl, by rw [List.size_toArray, ← e]; exact Nat.le_of_lt (small1000 hl), by simpa using hv⟩, reps xs _ ρ H⟩⟩
theorem gk_text {K : PySem.W.Frag} {mg : Str → Option Value} {x y : Str} {t : Tok} (hm : mg x = some (.str y t)) : GK ⟨K, mg, w⟩ x (.str y) := ⟨.str y, _, hm, ⟨t, rfl⟩, fun _ _ => rfl⟩
theorem gk_int {K : PySem.W.Frag} {mg : Str → Option Value} {x : Str} {y : Int} {t : Tok} (hm : mg x = some (.int y t)) : GK ⟨K, mg, w⟩ x (.int y) := ⟨.int y, _, hm, ⟨t, rfl⟩, fun _ _ => rfl⟩
end Fx
/-! What the functions give: rewriting by values. -/
namespace Fx
open PySem PySem.Spec L2

def Out.an {α β : Type} (o : Out α) (f : α → List D → Out β) : Out β := match o with
  | .ok a w => f a w
  | .exn c ns xs w => .exn c ns xs w
  | .no => .no
def Out.st {α : Type} (o : Out α) (env : Env) (f : α → List D → OS) : OS := match o with
  | .ok a w => f a w
  | .exn c ns xs w => .exn c ns xs env w
  | .no => .no
def OS.an (o : OS) (f : Env → List D → OS) : OS := match o with
  | .go .nx env w => f env w
  | o => o
def OS.turn (o : OS) (f : Env → List D → OS) : OS := match o with
  | .go .nx env w => f env w
  | .go .ct env w => f env w
  | .go .bk env w => .go .nx env w
  | .go (.rt d) env w => .go (.rt d) env w
  | .exn c ns xs env w => .exn c ns xs env w
  | .no => .no
def OS.fin (o : OS) : Out D := match o with
  | .go .nx _ w => .ok .non w
  | .go (.rt d) _ w => .ok d w
  | .exn c ns xs _ w => .exn c ns xs w
  | _ => .no
def Out.calm {α : Type} (o : Out α) : Out α := match o with
  | .ok a w => .ok a w
  | _ => .no
def ofO (o : Option (Option D)) (w : List D) : Out D := match o with
  | some (some d) => .ok d w
  | _ => .no
section
variable {α β : Type} {m : M α} {f : α → M β} {a : α} {ro w w' : List D} {env env' : Env} {c : Str} {ns : List Str} {xs : List D} {d e : D} {g : α → List D → Out β} {h : Env → List D → OS} {k : α → List D → OS}
@[simp] theorem an_ok : (Out.ok a w).an g = g a w := rfl
@[simp] theorem an_exn : (Out.exn c ns xs w : Out α).an g = .exn c ns xs w := rfl
@[simp] theorem an_no : (Out.no : Out α).an g = .no := rfl
@[simp] theorem st_ok : (Out.ok a w).st env k = k a w := rfl
@[simp] theorem st_exn : (Out.exn c ns xs w : Out α).st env k = .exn c ns xs env w := rfl
@[simp] theorem st_no : (Out.no : Out α).st env k = .no := rfl
@[simp] theorem oan_nx : (OS.go .nx env w).an h = h env w := rfl
@[simp] theorem oan_rt : (OS.go (.rt d) env w).an h = .go (.rt d) env w := rfl
@[simp] theorem oan_bk : (OS.go .bk env w).an h = .go .bk env w := rfl
@[simp] theorem oan_ct : (OS.go .ct env w).an h = .go .ct env w := rfl
@[simp] theorem oan_exn : (OS.exn c ns xs env w).an h = .exn c ns xs env w := rfl
@[simp] theorem oan_no : OS.no.an h = .no := rfl
@[simp] theorem tn_nx : (OS.go .nx env w).turn h = h env w := rfl
@[simp] theorem tn_ct : (OS.go .ct env w).turn h = h env w := rfl
@[simp] theorem tn_bk : (OS.go .bk env w).turn h = .go .nx env w := rfl
@[simp] theorem tn_rt : (OS.go (.rt d) env w).turn h = .go (.rt d) env w := rfl
@[simp] theorem tn_exn : (OS.exn c ns xs env w).turn h = .exn c ns xs env w := rfl
@[simp] theorem tn_no : OS.no.turn h = .no := rfl
@[simp] theorem fin_nx : (OS.go .nx env w).fin = .ok .non w := rfl
@[simp] theorem fin_rt : (OS.go (.rt d) env w).fin = .ok d w := rfl
@[simp] theorem fin_exn : (OS.exn c ns xs env w).fin = .exn c ns xs w := rfl
@[simp] theorem fin_no : OS.no.fin = .no := rfl
@[simp] theorem calm_ok' : (Out.ok a w).calm = .ok a w := rfl
@[simp] theorem calm_no : (Out.no : Out α).calm = .no := rfl
@[simp] theorem ofO_ss : ofO (some (some d)) w = .ok d w := rfl
@[simp] theorem ofO_sn : ofO (some none) w = .no := rfl
@[simp] theorem ofO_n : ofO none w = .no := rfl
@[simp] theorem x_bind : M.bind m f ro w = (m ro w).an fun a w' => f a ro w' := by
  unfold M.bind
  cases m ro w <;> rfl
@[simp] theorem x_pure : M.pure a ro w = .ok a w := rfl
@[simp] theorem x_no : (M.no : M α) ro w = .no := rfl
@[simp] theorem x_calm : M.calm m ro w = (m ro w).calm := by
  unfold M.calm
  cases m ro w <;> rfl
@[simp] theorem x_see : M.see d ro w = .ok (see ro w d) w := rfl
@[simp] theorem see_non : see ro w .non = .non := rfl
@[simp] theorem see_int {i : Int} : see ro w (.int i) = .int i := rfl
@[simp] theorem see_str {i : Str} : see ro w (.str i) = .str i := rfl
@[simp] theorem see_bl {i : Bool} : see ro w (.bl i) = .bl i := rfl
@[simp] theorem see_tup {ds : List D} : see ro w (.tup ds) = .tup ds := rfl
@[simp] theorem see_lst {ds : List D} : see ro w (.lst ds) = .lst ds := rfl
@[simp] theorem see_dct {ks ds : List D} : see ro w (.dct ks ds) = .dct ks ds := rfl
@[simp] theorem see_dic {ks ds : List D} : see ro w (.dic ks ds) = .dic ks ds := rfl
theorem see_ref {n : Nat} : see ro w (.ref n) = ((ro ++ w)[n]?).getD .non := rfl
@[simp] theorem x_var {i : Nat} : cVar i env ro w = ofO env[i]? w := by
  unfold cVar
  cases env[i]? with
  | none => rfl
  | some o => cases o <;> rfl
@[simp] theorem x_k : cK d env ro w = .ok d w := rfl
@[simp] theorem x_args0 : cArgs [] env ro w = .ok [] w := rfl
@[simp] theorem x_args {f : EF} {fs : List EF} : cArgs (f :: fs) env ro w = (f env ro w).an fun d w1 => (cArgs fs env ro w1).an fun ds w2 => .ok (d :: ds) w2 := by
  show M.bind (f env) (fun d => M.bind (cArgs fs env) fun ds => M.pure (d :: ds)) ro w = _
  simp
@[simp] theorem x_call {g : List D → M D} {fs : Env → M (List D)} : cCall g fs env ro w = (fs env ro w).an fun ds w1 => g ds ro w1 := by
  show M.bind (fs env) g ro w = _
  simp
@[simp] theorem x_call0 {g : List D → M D} : cCall0 g env ro w = g [] ro w := rfl
@[simp] theorem x_one {g : D → M D} : one g [d] ro w = g (see ro w d) ro w := rfl
@[simp] theorem x_tup {fs : Env → M (List D)} : cTup fs env ro w = (fs env ro w).an fun ds w1 => .ok (.tup ds) w1 := by
  show M.bind (fs env) _ ro w = _
  simp
@[simp] theorem x_lst {fs : Env → M (List D)} : cLst fs env ro w = (fs env ro w).an fun ds w1 => .ok (.lst ds) w1 := by
  show M.bind (fs env) _ ro w = _
  simp
@[simp] theorem x_new : mNew d ro w = .ok (.ref (ro.length + w.length)) (w ++ [d]) := by
  unfold mNew
  rw [List.length_append]
@[simp] theorem x_lstM {fs : Env → M (List D)} : cLstM fs env ro w = (fs env ro w).an fun ds w1 => .ok (.ref (ro.length + w1.length)) (w1 ++ [.lst ds]) := by
  show M.bind (fs env) _ ro w = _
  simp
@[simp] theorem x_bin {g : D → D → M D} {fa fb : EF} : cBin g fa fb env ro w = (fa env ro w).an fun d w1 => (fb env ro w1).an fun e w2 => g (see ro w2 d) (see ro w2 e) ro w2 := by
  show M.bind (fa env) _ ro w = _
  simp
@[simp] theorem x_un {g : D → M D} {fa : EF} : cUn g fa env ro w = (fa env ro w).an fun d w1 => g d ro w1 := by
  show M.bind (fa env) _ ro w = _
  simp
/-! truth -/
def D.bool? : D → Option Bool
  | .bl b => some b
  | _ => none
def Out.obl (o : Option Bool) (w : List D) : Out Bool := match o with
  | some b => .ok b w
  | none => .no
@[simp] theorem obl_s {b : Bool} : Out.obl (some b) w = .ok b w := rfl
@[simp] theorem bool_bl {b : Bool} : M.bool (.bl b) ro w = .ok b w := rfl
@[simp] theorem truth_bl {b : Bool} : M.truth (.bl b) ro w = .ok b w := rfl
@[simp] theorem truth_non : M.truth .non ro w = .ok false w := rfl
@[simp] theorem truth_int {i : Int} : M.truth (.int i) ro w = .ok (i != 0) w := rfl
@[simp] theorem truth_lst {ds : List D} : M.truth (.lst ds) ro w = .ok (!ds.isEmpty) w := rfl
@[simp] theorem truth_tup {ds : List D} : M.truth (.tup ds) ro w = .ok (!ds.isEmpty) w := rfl
@[simp] theorem x_test {fa : EF} : cTest fa env ro w = (fa env ro w).an fun d w1 => M.bool d ro w1 := by
  show M.bind (fa env) _ ro w = _
  simp
@[simp] theorem x_tru {fa : EF} : cTru fa env ro w = (fa env ro w).an fun d w1 => M.truth (see ro w1 d) ro w1 := by
  show M.bind (fa env) _ ro w = _
  simp
@[simp] theorem x_yes : cYes env ro w = .ok true w := rfl
variable {ta tb : Env → M Bool} {fa fb : EF}
@[simp] theorem x_andT : cAndT ta tb env ro w = (ta env ro w).an fun b w1 => if b = true then tb env ro w1 else .ok false w1 := by
  show M.bind (ta env) _ ro w = _
  rw [x_bind]
  congr
  funext b w1
  cases b <;> rfl
@[simp] theorem x_orT : cOrT ta tb env ro w = (ta env ro w).an fun b w1 => if b = true then .ok true w1 else tb env ro w1 := by
  show M.bind (ta env) _ ro w = _
  rw [x_bind]
  congr
  funext b w1
  cases b <;> rfl
@[simp] theorem x_notT : cNotT ta env ro w = (ta env ro w).an fun b w1 => .ok (!b) w1 := by
  show M.bind (ta env) _ ro w = _
  simp
@[simp] theorem x_if : cIf ta fa fb env ro w = (ta env ro w).an fun b w1 => if b = true then fa env ro w1 else fb env ro w1 := by
  show M.bind (ta env) _ ro w = _
  rw [x_bind]
  congr
  funext b w1
  cases b <;> rfl
def andV (d : D) (o : List D → Out D) (w : List D) : Out D := match d with
  | .bl true => o w
  | .bl false => .ok (.bl false) w
  | _ => .no
def orV (d : D) (o : List D → Out D) (w : List D) : Out D := match d with
  | .bl true => .ok (.bl true) w
  | .bl false => o w
  | _ => .no
@[simp] theorem andV_bl {b : Bool} {o : List D → Out D} : andV (.bl b) o w = if b = true then o w else .ok (.bl false) w := by cases b <;> rfl
@[simp] theorem orV_bl {b : Bool} {o : List D → Out D} : orV (.bl b) o w = if b = true then .ok (.bl true) w else o w := by cases b <;> rfl
@[simp] theorem x_and : cAnd fa fb env ro w = (fa env ro w).an fun d w1 => andV d (fb env ro) w1 := by
  show M.bind (fa env) _ ro w = _
  rw [x_bind]
  congr
  funext d w1
  cases d with
  | bl b => cases b <;> rfl
  | _ => rfl
@[simp] theorem x_or : cOr fa fb env ro w = (fa env ro w).an fun d w1 => orV d (fb env ro) w1 := by
  show M.bind (fa env) _ ro w = _
  rw [x_bind]
  congr
  funext d w1
  cases d with
  | bl b => cases b <;> rfl
  | _ => rfl
def notV (d : D) (w : List D) : Out D := match d with
  | .bl b => .ok (.bl (!b)) w
  | _ => .no
@[simp] theorem notV_bl {b : Bool} : notV (.bl b) w = .ok (.bl (!b)) w := rfl
@[simp] theorem x_not : cNot fa env ro w = (fa env ro w).an fun d w1 => notV d w1 := by
  show M.bind (fa env) _ ro w = _
  rw [x_bind]
  congr
  funext d w1
  cases d <;> rfl
/-! operators -/
variable {i j : Int} {x y : Str}
@[simp] theorem add_int : gAdd (.int i) (.int j) ro w = .ok (.int (i + j)) w := rfl
@[simp] theorem add_str : gAdd (.str x) (.str y) ro w = if x.length + y.length ≤ sizeLine then .ok (.str (x ++ y)) w else .no := rfl
@[simp] theorem add_tup {ds es : List D} : gAdd (.tup ds) (.tup es) ro w = if ds.length + es.length ≤ sizeLine then .ok (.tup (ds ++ es)) w else .no := rfl
@[simp] theorem add_lst {ds es : List D} : gAdd (.lst ds) (.lst es) ro w = if ds.length + es.length ≤ sizeLine then .ok (.lst (ds ++ es)) w else .no := rfl
@[simp] theorem sub_int : Fx.gSub (.int i) (.int j) ro w = .ok (.int (i - j)) w := rfl
@[simp] theorem mul_int : gMul (.int i) (.int j) ro w = if i.natAbs < 2 ^ 64 ∨ j.natAbs < 2 ^ 64 then .ok (.int (i * j)) w else .no := rfl
@[simp] theorem div_int : gDiv (.int i) (.int j) ro w = if 0 < j ∧ j.natAbs < 1073741824 then .ok (.int (i / j)) w else .no := rfl
@[simp] theorem mod_int : gMod (.int i) (.int j) ro w = if 0 < j then .ok (.int (i % j)) w else .no := rfl
@[simp] theorem lt_int : gLt (.int i) (.int j) ro w = .ok (.bl (decide (i < j))) w := rfl
@[simp] theorem le_int : gLe (.int i) (.int j) ro w = .ok (.bl (decide (i ≤ j))) w := rfl
@[simp] theorem gt_int : gGt (.int i) (.int j) ro w = .ok (.bl (decide (j < i))) w := rfl
@[simp] theorem ge_int : gGe (.int i) (.int j) ro w = .ok (.bl (decide (j ≤ i))) w := rfl
@[simp] theorem neg_int : gNeg (.int i) ro w = .ok (.int (-i)) w := rfl
@[simp] theorem isN : gIsN d .non ro w = .ok (.bl d.isNon) w := rfl
@[simp] theorem notN : gNotN d .non ro w = .ok (.bl (!d.isNon)) w := rfl
@[simp] theorem isNon_non : D.non.isNon = true := rfl
@[simp] theorem isNon_bl {b : Bool} : (D.bl b).isNon = false := rfl
@[simp] theorem isNon_int : (D.int i).isNon = false := rfl
@[simp] theorem isNon_str : (D.str x).isNon = false := rfl
@[simp] theorem isNon_tup {ds : List D} : (D.tup ds).isNon = false := rfl
@[simp] theorem isNon_lst {ds : List D} : (D.lst ds).isNon = false := rfl
theorem x_eq : gEq d e ro w = if (d.cmp && e.cmp) = true then .ok (.bl (PyData.eqv d.py e.py)) w else .no := rfl
theorem x_ne : gNe d e ro w = if (d.cmp && e.cmp) = true then .ok (.bl (!PyData.eqv d.py e.py)) w else .no := rfl
@[simp] theorem cmp_int : (D.int i).cmp = true := rfl
@[simp] theorem cmp_bl {b : Bool} : (D.bl b).cmp = true := rfl
@[simp] theorem eq_int : gEq (.int i) (.int j) ro w = .ok (.bl (decide (i = j))) w := by
  rw [x_eq, if_pos (by simp)]
  show Out.ok (D.bl (i == j)) w = _
  rw [Bool.beq_eq_decide_eq]
@[simp] theorem ne_int : gNe (.int i) (.int j) ro w = .ok (.bl (!decide (i = j))) w := by
  rw [x_ne, if_pos (by simp)]
  show Out.ok (D.bl (!(i == j))) w = _
  rw [Bool.beq_eq_decide_eq]
@[simp] theorem eq_bl {a b : Bool} : gEq (.bl a) (.bl b) ro w = .ok (.bl (decide (a = b))) w := by
  rw [x_eq, if_pos (by simp)]
  show Out.ok (D.bl (a == b)) w = _
  rw [Bool.beq_eq_decide_eq]
@[simp] theorem ne_bl {a b : Bool} : gNe (.bl a) (.bl b) ro w = .ok (.bl (!decide (a = b))) w := by
  rw [x_ne, if_pos (by simp)]
  show Out.ok (D.bl (!(a == b))) w = _
  rw [Bool.beq_eq_decide_eq]
def Out.od (o : Option D) (w : List D) : Out D := match o with
  | some d => .ok d w
  | none => .no
@[simp] theorem od_s : Out.od (some d) w = .ok d w := rfl
@[simp] theorem od_n : Out.od none w = .no := rfl
@[simp] theorem ix_tup {ds : List D} : gIx (.tup ds) (.int i) ro w = Out.od (L2.atI ds i) w := by
  unfold gIx Out.od
  cases h : L2.atI ds i <;> simp only [h]
@[simp] theorem ix_lst {ds : List D} : gIx (.lst ds) (.int i) ro w = Out.od (L2.atI ds i) w := by
  unfold gIx Out.od
  cases h : L2.atI ds i <;> simp only [h]
@[simp] theorem len_tup {ds : List D} : gLen (.tup ds) ro w = .ok (.int ds.length) w := rfl
@[simp] theorem len_lst {ds : List D} : gLen (.lst ds) ro w = .ok (.int ds.length) w := rfl
@[simp] theorem len_str : gLen (.str x) ro w = if x.length ≤ sizeLine then .ok (.int x.length) w else .no := rfl
@[simp] theorem int_int : gInt (.int i) ro w = .ok (.int i) w := rfl
@[simp] theorem int_bl {b : Bool} : gInt (.bl b) ro w = .ok (.int (if b then 1 else 0)) w := rfl
@[simp] theorem list_lst {ds : List D} : gList (.lst ds) ro w = .ok (.lst ds) w := rfl
@[simp] theorem list_tup {ds : List D} : gList (.tup ds) ro w = .ok (.lst ds) w := rfl
@[simp] theorem listM_lst {ds : List D} : gListM (.lst ds) ro w = .ok (.ref (ro.length + w.length)) (w ++ [.lst ds]) := by
  show mNew _ ro w = _
  simp
@[simp] theorem listM_tup {ds : List D} : gListM (.tup ds) ro w = .ok (.ref (ro.length + w.length)) (w ++ [.lst ds]) := by
  show mNew _ ro w = _
  simp
@[simp] theorem tuple_lst {ds : List D} : gTuple (.lst ds) ro w = .ok (.tup ds) w := rfl
@[simp] theorem tuple_tup {ds : List D} : gTuple (.tup ds) ro w = .ok (.tup ds) w := rfl
def isiV (t : Ty) (d : D) (w : List D) : Out D := match d.ty? with
  | some a => .ok (.bl (isTy a t)) w
  | none => .no
@[simp] theorem isi_non {t : Ty} : isiV t .non w = .ok (.bl (isTy .non t)) w := rfl
@[simp] theorem isi_int {t : Ty} : isiV t (.int i) w = .ok (.bl (isTy .int t)) w := rfl
@[simp] theorem isi_str {t : Ty} : isiV t (.str x) w = .ok (.bl (isTy .str t)) w := rfl
@[simp] theorem isi_bl {t : Ty} {b : Bool} : isiV t (.bl b) w = .ok (.bl (isTy .bl t)) w := rfl
@[simp] theorem isi_tup {t : Ty} {ds : List D} : isiV t (.tup ds) w = .ok (.bl (isTy .tup t)) w := rfl
@[simp] theorem isi_lst {t : Ty} {ds : List D} : isiV t (.lst ds) w = .ok (.bl (isTy .lst t)) w := rfl
@[simp] theorem x_isi {t : Ty} : cIsi t fa env ro w = (fa env ro w).an fun d w1 => isiV t (see ro w1 d) w1 := by
  show M.bind (fa env) _ ro w = _
  simp only [x_bind, x_see, an_ok]
  congr
  funext d w1
  unfold gIsi isiV
  cases (see ro w1 d).ty? <;> rfl
@[simp] theorem x_in {b : Bool} (h : inD d e = some b) : gIn d e ro w = .ok (.bl b) w := by
  unfold gIn
  rw [h]
@[simp] theorem x_notIn {b : Bool} (h : inD d e = some b) : gNotIn d e ro w = .ok (.bl (!b)) w := by
  unfold gNotIn
  rw [h]
@[simp] theorem x_noPart : cNoPart env ro w = .ok none w := rfl
def partV (d : D) (w : List D) : Out (Option Int) := match d with
  | .int i => .ok (some i) w
  | _ => .no
@[simp] theorem partV_int : partV (.int i) w = .ok (some i) w := rfl
@[simp] theorem x_part : cPart fa env ro w = (fa env ro w).an fun d w1 => partV d w1 := by
  show M.bind (fa env) _ ro w = _
  rw [x_bind]
  congr
  funext d w1
  cases d <;> rfl
@[simp] theorem x_sl {lo hi : Env → M (Option Int)} : cSl fa lo hi env ro w = (fa env ro w).an fun d w1 => (lo env ro w1).an fun i w2 => (hi env ro w2).an fun j w3 => gSl (see ro w3 d) i j ro w3 := by
  show M.bind (fa env) _ ro w = _
  simp
@[simp] theorem sl_lst {ds : List D} {lo hi : Option Int} : gSl (.lst ds) lo hi ro w = .ok (.lst (cut ds lo hi)) w := rfl
@[simp] theorem sl_tup {ds : List D} {lo hi : Option Int} : gSl (.tup ds) lo hi ro w = .ok (.tup (cut ds lo hi)) w := rfl
/-! statements -/
variable {s t : SF}
@[simp] theorem x_nil : sNil env ro w = .go .nx env w := rfl
@[simp] theorem x_pass : sPass env ro w = .go .nx env w := rfl
@[simp] theorem x_brk : sBrk env ro w = .go .bk env w := rfl
@[simp] theorem x_cnt : sCnt env ro w = .go .ct env w := rfl
@[simp] theorem x_seq : sSeq s t env ro w = (s env ro w).an fun env' w' => t env' ro w' := by
  unfold sSeq OS.an
  cases s env ro w with
  | go fl env w => cases fl <;> rfl
  | _ => rfl
theorem x_lift {f : Env → M α} {k : α → SF} : sLift f k env ro w = (f env ro w).st env fun a w' => k a env ro w' := by
  unfold sLift Out.st
  cases f env ro w <;> rfl
@[simp] theorem x_set {n : Nat} : sSet n fa env ro w = (fa env ro w).st env fun d w' => .go .nx (env.set n (some d)) w' := x_lift
@[simp] theorem x_ret : sRet fa env ro w = (fa env ro w).st env fun d w' => .go (.rt d) env w' := x_lift
@[simp] theorem x_retN : sRetN env ro w = .go (.rt .non) env w := rfl
@[simp] theorem x_expr : sExpr fa env ro w = (fa env ro w).st env fun _ w' => .go .nx env w' := x_lift
@[simp] theorem x_ifS : sIf ta s t env ro w = (ta env ro w).st env fun b w' => if b = true then s env ro w' else t env ro w' := by
  refine x_lift.trans ?_
  congr
  funext b w'
  cases b <;> rfl
def putV (v d : D) (i : D) (ro w : List D) : Out D := gPut v d i ro w
@[simp] theorem x_put {fo fi fv : EF} : sPut fo fi fv env ro w = (fv env ro w).st env fun v w1 => (fo env ro w1).st env fun o w2 => (fi env ro w2).st env fun i w3 => (gPut v o i ro w3).st env fun _ w4 => .go .nx env w4 := by
  refine x_lift.trans (congrArg _ ?_)
  funext v w1
  refine x_lift.trans (congrArg _ ?_)
  funext o w2
  refine x_lift.trans (congrArg _ ?_)
  funext i w3
  exact x_lift
@[simp] theorem x_aug {n : Nat} {g : D → D → M D} : sAug n g fa env ro w = (cVar n env ro w).st env fun x w1 => (fa env ro w1).st env fun y w2 => (g (see ro w2 x) (see ro w2 y) ro w2).st env fun z w3 => .go .nx (env.set n (some z)) w3 := by
  refine x_lift.trans (congrArg _ ?_)
  funext v w1
  refine x_lift.trans (congrArg _ ?_)
  funext o w2
  refine x_lift.trans ?_
  simp
theorem x_for {tg : Tg} {it : Env → M (List D)} : sFor tg it s env ro w = (it env ro w).st env fun ds w' => forL tg s ds env ro w' := x_lift
@[simp] theorem for_nil {tg : Tg} : forL tg s [] env ro w = .go .nx env w := rfl
theorem for_cons {tg : Tg} {ds : List D} (h : tg.put d env = some env') : forL tg s (d :: ds) env ro w = (s env' ro w).turn fun env2 w2 => forL tg s ds env2 ro w2 := by
  show (match tg.put d env with
    | none => OS.no
    | some env1 => match s env1 ro w with
      | .go .nx env2 w2 => forL tg s ds env2 ro w2
      | .go .ct env2 w2 => forL tg s ds env2 ro w2
      | .go .bk env2 w2 => .go .nx env2 w2
      | .go (.rt d) env2 w2 => .go (.rt d) env2 w2
      | .exn c ns xs env2 w2 => .exn c ns xs env2 w2
      | .no => .no) = _
  rw [h]
  dsimp only
  cases s env' ro w with
  | go fl env w => cases fl <;> rfl
  | _ => rfl
@[simp] theorem for_nm {n : Nat} {ds : List D} : forL (.nm n) s (d :: ds) env ro w = (s (env.set n (some d)) ro w).turn fun env2 w2 => forL (.nm n) s ds env2 ro w2 := for_cons rfl
def seqV (d : D) (w : List D) : Out (List D) := match d with
  | .lst ds => .ok ds w
  | .tup ds => .ok ds w
  | _ => .no
@[simp] theorem seqV_lst {ds : List D} : seqV (.lst ds) w = .ok ds w := rfl
@[simp] theorem seqV_tup {ds : List D} : seqV (.tup ds) w = .ok ds w := rfl
@[simp] theorem x_seqI : cSeq fa env ro w = (fa env ro w).an fun d w1 => seqV d w1 := by
  show M.bind (fa env) _ ro w = _
  rw [x_bind]
  congr
  funext d w1
  cases d <;> rfl
@[simp] theorem x_rng1 {fs : Env → M (List D)} : cRng1 fs env ro w = (fs env ro w).an fun ds w1 => gRng1 ds ro w1 := by
  show M.bind (fs env) _ ro w = _
  simp
@[simp] theorem x_rng2 {fs : Env → M (List D)} : cRng2 fs env ro w = (fs env ro w).an fun ds w1 => gRng2 ds ro w1 := by
  show M.bind (fs env) _ ro w = _
  simp
theorem rng1_int : gRng1 [.int i] ro w = if i.natAbs < 2 ^ 62 then .ok (rngD 0 i.toNat) w else .no := rfl
theorem rng2_int : gRng2 [.int i, .int j] ro w = if i.natAbs < 2 ^ 62 ∧ j.natAbs < 2 ^ 62 then .ok (rngD i (j - i).toNat) w else .no := rfl
@[simp] theorem x_rev {fs : Env → M (List D)} : cRev fs env ro w = (fs env ro w).an fun ds w1 => gRev ds ro w1 := by
  show M.bind (fs env) _ ro w = _
  simp
@[simp] theorem rev_lst {ds : List D} : gRev [.lst ds] ro w = .ok ds.reverse w := rfl
theorem x_comp {tg : Tg} {own : List Nat} {it : Env → M (List D)} {k : List D → M D} : cComp tg own it ta fa k env ro w = (it env ro w).an fun ds w1 => if ds.length ≤ sizeLine then (compR tg ta fa (wipeE env own) ds ro w1).an fun r w2 => k r ro w2 else .no := by
  show M.bind (few it env) _ ro w = _
  unfold few
  simp only [x_bind]
  cases it env ro w with
  | ok ds w1 =>
    simp only [an_ok]
    by_cases h : ds.length ≤ sizeLine
    · simp only [if_pos h, an_ok]
    · simp only [if_neg h, an_no]
  | _ => rfl
@[simp] theorem comp_nil {tg : Tg} : compR tg ta fa env [] ro w = .ok [] w := rfl
theorem comp_cons {tg : Tg} {ds : List D} (h : tg.put d env = some env') : compR tg ta fa env (d :: ds) ro w = (ta env' ro w).calm.an fun b w1 => if b = true then (fa env' ro w1).calm.an fun x w2 => (compR tg ta fa env ds ro w2).an fun r w3 => .ok (x :: r) w3 else compR tg ta fa env ds ro w1 := by
  show (match tg.put d env with
    | none => M.no
    | some env1 => M.bind (M.calm (ta env1)) fun b => if b = true then M.bind (M.calm (fa env1)) fun x => M.bind (compR tg ta fa env ds) fun r => M.pure (x :: r) else compR tg ta fa env ds) ro w = _
  rw [h]
  simp only [x_bind, x_calm]
  congr
  funext b w1
  cases b <;> simp
@[simp] theorem comp_nm {n : Nat} {ds : List D} : compR (.nm n) ta fa env (d :: ds) ro w = (ta (env.set n (some d)) ro w).calm.an fun b w1 => if b = true then (fa (env.set n (some d)) ro w1).calm.an fun x w2 => (compR (.nm n) ta fa env ds ro w2).an fun r w3 => .ok (x :: r) w3 else compR (.nm n) ta fa env ds ro w1 := comp_cons rfl
@[simp] theorem x_still {ds : List D} : kStill ds ro w = .ok (.lst ds) w := rfl
@[simp] theorem x_mut {ds : List D} : kMut ds ro w = .ok (.ref (ro.length + w.length)) (w ++ [.lst ds]) := by
  show mNew _ ro w = _
  simp
theorem x_def {np N : Nat} {ds : List D} : runDef np N s ds ro w = if ds.length = np then (s (ds.map some ++ List.replicate (N - np) none) ro w).fin else .no := by
  unfold runDef OS.fin
  by_cases h : ds.length = np
  · simp only [if_pos h]
    all_goals
      cases s (ds.map some ++ List.replicate (N - np) none) ro w with
      | go fl env w => cases fl <;> rfl
      | _ => rfl
  · simp only [if_neg h]
theorem while_succ {n : Nat} : whileL ta s (n + 1) env ro w = (ta env ro w).st env fun b w1 => if b = true then (s env ro w1).turn fun env2 w2 => whileL ta s n env2 ro w2 else .go .nx env w1 := by
  refine x_lift.trans ?_
  congr
  funext b w1
  cases b with
  | false => rfl
  | true =>
    rw [if_pos rfl, if_pos rfl]
    cases s env ro w1 with
    | go fl env w => cases fl <;> rfl
    | _ => rfl
/-! a list that changes -/
theorem mod_at {f : List D → Option (D × List D)} {n : Nat} {ds ds' : List D} (hn : ro.length ≤ n) (h : w[n - ro.length]? = some (.lst ds)) (hf : f ds = some (d, ds')) : mMod f (.ref n) ro w = .ok d (w.set (n - ro.length) (.lst ds')) := by
  unfold mMod
  simp only [if_neg (Nat.not_lt.mpr hn), h, hf]
def mlV (o : D) (k : List D → Out D) (w : List D) : Out D := match o with
  | .lst _ => k w
  | _ => .no
@[simp] theorem mlV_lst {ds : List D} {k : List D → Out D} : mlV (.lst ds) k w = k w := rfl
@[simp] theorem x_ml {g : List D → D → M D} {fo : EF} {fs : Env → M (List D)} : cMl g fo fs env ro w = (fo env ro w).an fun o w1 => mlV (see ro w1 o) (fun w1 => (fs env ro w1).an fun ds w2 => g ds o ro w2) w1 := by
  show M.bind (fo env) _ ro w = _
  simp only [x_bind, x_see, an_ok]
  congr
  funext o w1
  cases see ro w1 o <;> first | rfl | simp [mlV]
end
end Fx
/-! Equal data; formulas as data. -/
namespace Fx
open PySem PySem.Spec L2

theorem ofString_inj {a b : String} : (Str.ofString a = Str.ofString b) = (a = b) := by
  apply propext
  refine ⟨fun h => ?_, fun h => by rw [h]⟩
  rw [Str.ofString_eq_toList, Str.ofString_eq_toList] at h
  have h1 : a.toList.map Char.toNat = b.toList.map Char.toNat := by
    injection h with h
    have := congrArg Array.toList h
    simpa using this
  have inj : ∀ x y : Char, x.toNat = y.toNat → x = y := fun x y e => Char.toNat_inj.mp e
  have h2 : a.toList = b.toList := by
    revert h1
    generalize a.toList = l
    generalize b.toList = m
    induction l generalizing m with
    | nil => intro h; cases m <;> simp_all
    | cons x l ih =>
      intro h
      cases m with
      | nil => simp at h
      | cons y m =>
        simp only [List.map_cons, List.cons.injEq] at h
        rw [inj _ _ h.1, ih _ h.2]
  exact String.toList_inj.mp h2
noncomputable instance : DecidableEq D := fun _ _ => Classical.propDecidable _

@[simp] theorem ok_lit {a : String} : PyData.strOk (Str.ofString a) = true := by
  unfold PyData.strOk
  rw [Str.ofString_eq_toList, ← Array.all_toList]
  simp only [List.all_map, List.all_eq_true]
  intro c _
  have h := c.valid
  simp only [Function.comp, decide_eq_true_eq]
  rcases h with h | h
  · have : c.toNat < 0xd800 := h
    omega
  · have : c.toNat < 0x110000 := h.2
    omega

/-! ### data without truth values -/
mutual
def D.nb : D → Bool
  | .non => true
  | .int _ => true
  | .str _ => true
  | .tup ds => D.nbs ds
  | .lst ds => D.nbs ds
  | _ => false
def D.nbs : List D → Bool
  | [] => true
  | d :: ds => d.nb && D.nbs ds
end
mutual
theorem D.nb_flat : ∀ d : D, d.nb = true → d.flat = true
  | .non, _ => rfl
  | .int _, _ => rfl
  | .str _, _ => rfl
  | .tup ds, h => by
    simp only [D.nb] at h
    simpa only [D.flat] using D.nbs_flat ds h
  | .lst ds, h => by
    simp only [D.nb] at h
    simpa only [D.flat] using D.nbs_flat ds h
  | .bl _, h => by simp [D.nb] at h
  | .dic _ _, h => by simp [D.nb] at h
  | .dct _ _, h => by simp [D.nb] at h
  | .ins _ _ _, h => by simp [D.nb] at h
  | .fn _, h => by simp [D.nb] at h
  | .ref _, h => by simp [D.nb] at h
theorem D.nbs_flat : ∀ ds : List D, D.nbs ds = true → D.flats ds = true
  | [], _ => rfl
  | d :: ds, h => by
    simp only [D.nbs, Bool.and_eq_true] at h
    simp only [D.flats, Bool.and_eq_true]
    exact ⟨D.nb_flat d h.1, D.nbs_flat ds h.2⟩
end
mutual
theorem eqv_nb : ∀ (d e : D), d.nb = true → e.nb = true → (PyData.eqv d.py e.py = true ↔ d = e)
  | .bl _, _, h, _ => by simp [D.nb] at h
  | .dic _ _, _, h, _ => by simp [D.nb] at h
  | .dct _ _, _, h, _ => by simp [D.nb] at h
  | .ins _ _ _, _, h, _ => by simp [D.nb] at h
  | .fn _, _, h, _ => by simp [D.nb] at h
  | .ref _, _, h, _ => by simp [D.nb] at h
  | .non, e, _, h => by cases e <;> simp_all [D.nb, D.py, PyData.eqv]
  | .int i, e, _, h => by cases e <;> simp_all [D.nb, D.py, PyData.eqv]
  | .str i, e, _, h => by cases e <;> simp_all [D.nb, D.py, PyData.eqv]
  | .tup ds, e, h', h => by
    cases e with
    | tup es =>
      simp only [D.nb] at h h'
      simp only [D.py, PyData.eqv, D.tup.injEq]
      exact eqvs_nb ds es h' h
    | _ => simp_all [D.nb, D.py, PyData.eqv]
  | .lst ds, e, h', h => by
    cases e with
    | lst es =>
      simp only [D.nb] at h h'
      simp only [D.py, PyData.eqv, D.lst.injEq]
      exact eqvs_nb ds es h' h
    | _ => simp_all [D.nb, D.py, PyData.eqv]
theorem eqvs_nb : ∀ (ds es : List D), D.nbs ds = true → D.nbs es = true → (PyData.eqvAll (D.pys ds) (D.pys es) = true ↔ ds = es)
  | [], [], _, _ => by simp [D.pys, PyData.eqvAll]
  | [], _ :: _, _, _ => by simp [D.pys, PyData.eqvAll]
  | _ :: _, [], _, _ => by simp [D.pys, PyData.eqvAll]
  | d :: ds, e :: es, h, h' => by
    simp only [D.nbs, Bool.and_eq_true] at h h'
    simp only [D.pys, PyData.eqvAll, Bool.and_eq_true, List.cons.injEq]
    rw [eqv_nb d e h.1 h'.1, eqvs_nb ds es h.2 h'.2]
end
theorem eqv_dec {d e : D} (hd : d.nb = true) (he : e.nb = true) : PyData.eqv d.py e.py = decide (d = e) := by
  rw [Bool.eq_iff_iff, decide_eq_true_eq]
  exact eqv_nb d e hd he
/-- data that can be compared, without truth values -/
def D.eqo (d : D) : Bool := d.nb && SeqAt.shaped d.py
theorem D.eqo_cmp {d : D} (h : d.eqo = true) : d.cmp = true := by
  simp only [D.eqo, Bool.and_eq_true] at h
  simp only [D.cmp, Bool.and_eq_true]
  exact ⟨D.nb_flat d h.1, h.2⟩
theorem D.eqo_nb {d : D} (h : d.eqo = true) : d.nb = true := by
  simp only [D.eqo, Bool.and_eq_true] at h
  exact h.1
theorem eq_eqo {d e : D} {ro w : List D} (hd : d.eqo = true) (he : e.eqo = true) : gEq d e ro w = .ok (.bl (decide (d = e))) w := by
  rw [x_eq, if_pos (by rw [D.eqo_cmp hd, D.eqo_cmp he]; rfl), eqv_dec (D.eqo_nb hd) (D.eqo_nb he)]
theorem ne_eqo {d e : D} {ro w : List D} (hd : d.eqo = true) (he : e.eqo = true) : gNe d e ro w = .ok (.bl (!decide (d = e))) w := by
  rw [x_ne, if_pos (by rw [D.eqo_cmp hd, D.eqo_cmp he]; rfl), eqv_dec (D.eqo_nb hd) (D.eqo_nb he)]
/-! depth, and that texts are texts -/
mutual
def D.lay : D → Bool
  | .str x => PyData.strOk x
  | .tup ds => D.lays ds
  | .lst ds => D.lays ds
  | _ => true
def D.lays : List D → Bool
  | [] => true
  | d :: ds => d.lay && D.lays ds
end
mutual
def D.dp : D → Nat
  | .tup ds => D.dps ds + 1
  | .lst ds => D.dps ds + 1
  | _ => 0
def D.dps : List D → Nat
  | [] => 0
  | d :: ds => max d.dp (D.dps ds)
end
mutual
theorem D.py_lay : ∀ d : D, d.py.canLay0 = d.lay
  | .str _ => rfl
  | .tup ds => by simp only [D.py, PyData.canLay0, D.lay, D.pys_lay ds]
  | .lst ds => by simp only [D.py, PyData.canLay0, D.lay, D.pys_lay ds]
  | .bl _ => rfl
  | .dic _ _ => rfl
  | .dct _ _ => rfl
  | .ins _ _ _ => rfl
  | .fn _ => rfl
  | .ref _ => rfl
  | .non => rfl
  | .int _ => rfl
theorem D.pys_lay : ∀ ds : List D, PyData.canLayAll0 (D.pys ds) = D.lays ds
  | [] => rfl
  | d :: ds => by simp only [D.pys, PyData.canLayAll0, D.lays, D.py_lay d, D.pys_lay ds]
end
mutual
theorem D.py_dp : ∀ d : D, d.py.depth = d.dp
  | .str _ => rfl
  | .tup ds => by simp only [D.py, PyData.depth, D.dp, D.pys_dp ds]
  | .lst ds => by simp only [D.py, PyData.depth, D.dp, D.pys_dp ds]
  | .bl _ => rfl
  | .dic _ _ => rfl
  | .dct _ _ => rfl
  | .ins _ _ _ => rfl
  | .fn _ => rfl
  | .ref _ => rfl
  | .non => rfl
  | .int _ => rfl
theorem D.pys_dp : ∀ ds : List D, PyData.depthAll (D.pys ds) = D.dps ds
  | [] => rfl
  | d :: ds => by simp only [D.pys, PyData.depthAll, D.dps, D.py_dp d, D.pys_dp ds]
end
theorem eqo_of {d : D} (h1 : d.nb = true) (h2 : d.lay = true) (h3 : d.dp ≤ 64) : d.eqo = true := by
  unfold D.eqo SeqAt.shaped
  rw [D.py_lay, D.py_dp, h1, h2]
  simpa using h3
theorem nbs_iff {ds : List D} : D.nbs ds = true ↔ ∀ d ∈ ds, d.nb = true := by
  induction ds with
  | nil => simp [D.nbs]
  | cons d ds ih => simp [D.nbs, ih]
theorem lays_iff {ds : List D} : D.lays ds = true ↔ ∀ d ∈ ds, d.lay = true := by
  induction ds with
  | nil => simp [D.lays]
  | cons d ds ih => simp [D.lays, ih]
theorem dps_iff {ds : List D} {n : Nat} : D.dps ds ≤ n ↔ ∀ d ∈ ds, d.dp ≤ n := by
  induction ds with
  | nil => simp [D.dps]
  | cons d ds ih => simp [D.dps, ih, Nat.max_le]
@[simp] theorem eqo_int {i : Int} : (D.int i).eqo = true := eqo_of rfl rfl (Nat.zero_le _)
@[simp] theorem eqo_non : D.non.eqo = true := eqo_of rfl rfl (Nat.zero_le _)
theorem eqo_str {x : Str} (h : PyData.strOk x = true) : (D.str x).eqo = true := eqo_of rfl h (Nat.zero_le _)
theorem ne_non_lst {ds : List D} : (D.lst ds = .non) = False := by simp
theorem cmp_str {x : Str} (h : PyData.strOk x = true) : (D.str x).cmp = true := D.eqo_cmp (eqo_str h)
theorem eq_str {x y : Str} {ro w : List D} (hx : PyData.strOk x = true) (hy : PyData.strOk y = true) : gEq (.str x) (.str y) ro w = .ok (.bl (decide (x = y))) w := by
  rw [eq_eqo (eqo_str hx) (eqo_str hy)]
  simp
theorem ne_str {x y : Str} {ro w : List D} (hx : PyData.strOk x = true) (hy : PyData.strOk y = true) : gNe (.str x) (.str y) ro w = .ok (.bl (!decide (x = y))) w := by
  rw [ne_eqo (eqo_str hx) (eqo_str hy)]
  simp

/-! ### whole numbers -/
theorem nbs_ints {ns : List Int} : D.nbs (ns.map .int) = true := nbs_iff.mpr (by simp [D.nb])
theorem lays_ints {ns : List Int} : D.lays (ns.map .int) = true := lays_iff.mpr (by simp [D.lay])
theorem dps_ints {ns : List Int} : D.dps (ns.map .int) ≤ 0 := dps_iff.mpr (by simp [D.dp])
theorem eqo_ints {ns : List Int} : (D.lst (ns.map .int)).eqo = true := eqo_of (by simpa [D.nb] using nbs_ints) (by simpa [D.lay] using lays_ints) (by simp only [D.dp]; have := @dps_ints ns; omega)
theorem atI_nat {α : Type} {xs : List α} {i : Nat} : L2.atI xs (i : Int) = xs[i]? := by
  unfold L2.atI L2.ixN
  rw [if_pos (Int.natCast_nonneg i)]
  by_cases h : (i : Int) < xs.length
  · rw [if_pos h]
    simp
  · rw [if_neg h]
    simp only [Option.bind_none]
    rw [List.getElem?_eq_none (by omega)]
theorem cut_map {α β : Type} {f : α → β} {xs : List α} {lo hi : Option Int} : cut (xs.map f) lo hi = (cut xs lo hi).map f := by
  unfold cut
  simp [List.map_drop, List.map_take]
theorem rngD_nat {n : Nat} : rngD 0 n = (List.range n).map fun (i : Nat) => .int i := by
  unfold rngD
  simp

/-! ### formulas -/
inductive Fm where
  | fal
  | var (x : Str)
  | imp (a b : Fm)
  | and (a b : Fm)
  | or (a b : Fm)
  | box (a : Fm)
  deriving DecidableEq
def Fm.toD : Fm → D
  | .fal => .tup [.str "falsum"]
  | .var x => .tup [.str "var", .str x]
  | .imp a b => .tup [.str "implies", a.toD, b.toD]
  | .and a b => .tup [.str "and", a.toD, b.toD]
  | .or a b => .tup [.str "or", a.toD, b.toD]
  | .box a => .tup [.str "box", a.toD]
def Fm.ht : Fm → Nat
  | .fal => 1
  | .var _ => 1
  | .imp a b => max a.ht b.ht + 1
  | .and a b => max a.ht b.ht + 1
  | .or a b => max a.ht b.ht + 1
  | .box a => a.ht + 1
def Fm.Over (P : Str → Prop) : Fm → Prop
  | .fal => True
  | .var x => P x
  | .imp a b => a.Over P ∧ b.Over P
  | .and a b => a.Over P ∧ b.Over P
  | .or a b => a.Over P ∧ b.Over P
  | .box a => a.Over P
def Fm.plain : Fm → Bool
  | .fal => true
  | .var _ => true
  | .imp a b => a.plain && b.plain
  | .and a b => a.plain && b.plain
  | .or a b => a.plain && b.plain
  | .box a => false
theorem Fm.Over.mono {P Q : Str → Prop} (h : ∀ x, P x → Q x) : ∀ (φ : Fm), φ.Over P → φ.Over Q
  | .fal, _ => trivial
  | .var _, g => h _ g
  | .imp a b, g => ⟨Fm.Over.mono h a g.1, Fm.Over.mono h b g.2⟩
  | .and a b, g => ⟨Fm.Over.mono h a g.1, Fm.Over.mono h b g.2⟩
  | .or a b, g => ⟨Fm.Over.mono h a g.1, Fm.Over.mono h b g.2⟩
  | .box a, g => Fm.Over.mono h a g
theorem Fm.ht_pos : ∀ φ : Fm, 0 < φ.ht
  | .fal => by decide
  | .var _ => by simp [Fm.ht]
  | .imp _ _ => Nat.succ_pos _
  | .and _ _ => Nat.succ_pos _
  | .or _ _ => Nat.succ_pos _
  | .box _ => Nat.succ_pos _
theorem Fm.dp : ∀ φ : Fm, φ.toD.dp = φ.ht
  | .fal => rfl
  | .var _ => rfl
  | .imp a b => by simp [Fm.toD, D.dp, D.dps, Fm.ht, a.dp, b.dp]
  | .and a b => by simp [Fm.toD, D.dp, D.dps, Fm.ht, a.dp, b.dp]
  | .or a b => by simp [Fm.toD, D.dp, D.dps, Fm.ht, a.dp, b.dp]
  | .box a => by simp [Fm.toD, D.dp, D.dps, Fm.ht, a.dp]
theorem Fm.nb : ∀ φ : Fm, φ.toD.nb = true
  | .fal => rfl
  | .var _ => rfl
  | .imp a b => by simp [Fm.toD, D.nb, D.nbs, a.nb, b.nb]
  | .and a b => by simp [Fm.toD, D.nb, D.nbs, a.nb, b.nb]
  | .or a b => by simp [Fm.toD, D.nb, D.nbs, a.nb, b.nb]
  | .box a => by simp [Fm.toD, D.nb, D.nbs, a.nb]
theorem Fm.lay : ∀ φ : Fm, φ.Over (fun x => PyData.strOk x = true) → φ.toD.lay = true
  | .fal, _ => by simp [Fm.toD, D.lay, D.lays]
  | .var _, h => by
    have h' := h
    simp only [Fm.Over] at h'
    simp [Fm.toD, D.lay, D.lays, h']
  | .imp a b, h => by simp [Fm.toD, D.lay, D.lays, a.lay h.1, b.lay h.2]
  | .and a b, h => by simp [Fm.toD, D.lay, D.lays, a.lay h.1, b.lay h.2]
  | .or a b, h => by simp [Fm.toD, D.lay, D.lays, a.lay h.1, b.lay h.2]
  | .box a, h => by simp [Fm.toD, D.lay, D.lays, Fm.lay a h]
theorem Fm.eqo {φ : Fm} (h : φ.Over (fun x => PyData.strOk x = true)) (n : φ.ht ≤ 64) : φ.toD.eqo = true := eqo_of φ.nb (φ.lay h) (by rw [φ.dp]; exact n)
@[simp] theorem Fm.toD_inj : ∀ {φ ψ : Fm}, (φ.toD = ψ.toD) ↔ φ = ψ
  | .fal, ψ => by cases ψ <;> simp [Fm.toD, ofString_inj]
  | .var _, ψ => by cases ψ <;> simp [Fm.toD, ofString_inj]
  | .imp a b, ψ => by cases ψ <;> simp [Fm.toD, ofString_inj, a.toD_inj, b.toD_inj]
  | .and a b, ψ => by cases ψ <;> simp [Fm.toD, ofString_inj, a.toD_inj, b.toD_inj]
  | .or a b, ψ => by cases ψ <;> simp [Fm.toD, ofString_inj, a.toD_inj, b.toD_inj]
  | .box a, ψ => by cases ψ <;> simp [Fm.toD, ofString_inj, a.toD_inj]
end Fx
/-! What the laws draw with, and what they compare with. -/
namespace Fx
open PySem PySem.Spec L2
namespace Lw
def hPool : SF :=
  sSeq (sSet 1 (cK (.int 7)))
  (sSeq (sFor (.nm 2) (cSeq (cSl (cVar 0) (cNoPart) (cPart (cK (.int 63))))) (sSet 1 (cBin gMod (cCall (one gInt) (cArgs [cBin gAdd (cBin gMul (cVar 1) (cK (.int 31))) (cVar 2)])) (cK (.int 1000003)))))
  (sRet (cLstM (cArgs [cCall (one gList) (cArgs [cVar 0]), cK (.int 0), cK (.int 0), cK (.int 0), cVar 1]))))

def hSpread : SF :=
  sSeq (sSet 1 (cBin gMod (cCall (one gInt) (cArgs [cVar 0])) (cK (.int 2147483647))))
  (sSeq (sSet 2 (cK (.int 1)))
  (sSeq (sFor (.nm 3) (cRng1 (cArgs [cK (.int 4)])) (sSeq (sSet 1 (cBin gMod (cCall (one gInt) (cArgs [cBin gAdd (cBin gAdd (cBin gMul (cVar 1) (cK (.int 48271))) (cK (.int 12345))) (cVar 3)])) (cK (.int 2147483647))))
  (sSet 2 (cBin gAdd (cBin gMul (cVar 2) (cK (.int 2147483647))) (cVar 1)))))
  (sRet (cVar 2))))

def hDraw (c_spread : List D → M D) : SF :=
  sSeq (sIf (cAndT (cTest (cBin gLe (cBin gIx (cVar 0) (cK (.int 2))) (cK (.int 0)))) (cTest (cBin gLt (cBin gIx (cVar 0) (cK (.int 1))) (cCall (one gLen) (cArgs [cBin gIx (cVar 0) (cK (.int 0))]))))) (sSeq (sSet 3 (cBin gIx (cBin gIx (cVar 0) (cK (.int 0))) (cBin gIx (cVar 0) (cK (.int 1)))))
  (sSeq (sPut (cVar 0) (cK (.int 1)) (cBin gAdd (cBin gIx (cVar 0) (cK (.int 1))) (cK (.int 1))))
  (sSeq (sPut (cVar 0) (cK (.int 2)) (cVar 3))
  (sIf (cTest (cBin gLt (cVar 3) (cK (.int 1000000000000000000)))) (sPut (cVar 0) (cK (.int 2)) (cCall (fun ds => if ds.length = 1 then c_spread ds else M.no) (cArgs [cVar 3]))) (sNil))))) (sNil))
  (sSeq (sPut (cVar 0) (cK (.int 3)) (cBin gAdd (cBin gIx (cVar 0) (cK (.int 3))) (cK (.int 1))))
  (sSeq (sIf (cTest (cBin gLe (cBin gIx (cVar 0) (cK (.int 2))) (cK (.int 0)))) (sSeq (sSet 4 (cBin gMod (cCall (one gInt) (cArgs [cBin gAdd (cBin gAdd (cBin gMul (cBin gIx (cVar 0) (cK (.int 4))) (cK (.int 48271))) (cBin gMul (cBin gIx (cVar 0) (cK (.int 3))) (cK (.int 69621)))) (cK (.int 1))])) (cK (.int 2147483647))))
  (sSeq (sSet 4 (cBin gMod (cCall (one gInt) (cArgs [cBin gAdd (cBin gMul (cVar 4) (cK (.int 16807))) (cBin gIx (cVar 0) (cK (.int 3)))])) (cK (.int 2147483629))))
  (sRet (cBin gMod (cBin gDiv (cVar 4) (cK (.int 5))) (cVar 1))))) (sNil))
  (sSeq (sSet 2 (cBin gMod (cCall (one gInt) (cArgs [cBin gIx (cVar 0) (cK (.int 2))])) (cVar 1)))
  (sSeq (sPut (cVar 0) (cK (.int 2)) (cBin gDiv (cBin gIx (cVar 0) (cK (.int 2))) (cVar 1)))
  (sRet (cVar 2))))))

def hSame (c_same : List D → M D) : SF :=
  sSeq (sIf (cOrT (cTru (cIsi .tup (cVar 1))) (cTru (cIsi .lst (cVar 1)))) (sSeq (sIf (cOrT (cTest (cBin gNe (cIsi .tup (cVar 1)) (cIsi .tup (cVar 0)))) (cTest (cBin gNe (cIsi .lst (cVar 1)) (cIsi .lst (cVar 0))))) (sRet (cK (.bl false))) (sNil))
  (sSeq (sIf (cTest (cBin gNe (cCall (one gLen) (cArgs [cVar 0])) (cCall (one gLen) (cArgs [cVar 1])))) (sRet (cK (.bl false))) (sNil))
  (sSeq (sFor (.nm 2) (cRng1 (cArgs [cCall (one gLen) (cArgs [cVar 1])])) (sIf (cNotT (cTru (cCall (fun ds => if ds.length = 2 then c_same ds else M.no) (cArgs [cBin gIx (cVar 0) (cVar 2), cBin gIx (cVar 1) (cVar 2)])))) (sRet (cK (.bl false))) (sNil)))
  (sRet (cK (.bl true)))))) (sNil))
  (sSeq (sIf (cTest (cBin gIsN (cVar 1) (cK .non))) (sRet (cBin gIsN (cVar 0) (cK .non))) (sNil))
  (sSeq (sIf (cTru (cIsi .bl (cVar 1))) (sRet (cAnd (cIsi .bl (cVar 0)) (cBin gEq (cVar 0) (cVar 1)))) (sNil))
  (sSeq (sIf (cTru (cIsi .int (cVar 1))) (sRet (cAnd (cIsi .int (cVar 0)) (cAnd (cNot (cIsi .bl (cVar 0))) (cBin gEq (cVar 0) (cVar 1))))) (sNil))
  (sRet (cAnd (cIsi .str (cVar 0)) (cBin gEq (cVar 0) (cVar 1)))))))

def hFormula (c_formula : List D → M D) : SF :=
  sSeq (sSet 3 (cK (.int 0)))
  (sSeq (sIf (cTest (cBin gNe (cVar 0) (cLst (cArgs [])))) (sSet 3 (cCall (one gInt) (cArgs [cMl gPopAt (cVar 0) (cArgs [cK (.int 0)])]))) (sNil))
  (sSeq (sSet 4 (cBin gMod (cVar 3) (cK (.int 10))))
  (sSeq (sIf (cOrT (cTest (cBin gEq (cVar 1) (cK (.int 0)))) (cTest (cBin gLt (cVar 4) (cK (.int 2))))) (sSeq (sIf (cTest (cBin gEq (cBin gMod (cBin gDiv (cVar 3) (cK (.int 10))) (cK (.int 8))) (cK (.int 0)))) (sRet (cTup (cArgs [cK (.str "falsum")]))) (sNil))
  (sRet (cTup (cArgs [cK (.str "var"), cBin gIx (cLst (cArgs [cK (.str "p"), cK (.str "q"), cK (.str "p"), cK (.str "q"), cK (.str "r")])) (cBin gMod (cBin gDiv (cVar 3) (cK (.int 80))) (cK (.int 5)))])))) (sNil))
  (sSeq (sIf (cOrT (cTest (cBin gEq (cVar 4) (cK (.int 2)))) (cAndT (cTest (cBin gIn (cVar 4) (cTup (cArgs [cK (.int 3), cK (.int 4)])))) (cTru (cVar 2)))) (sRet (cTup (cArgs [cK (.str "implies"), cCall (fun ds => if ds.length = 3 then c_formula ds else M.no) (cArgs [cVar 0, cBin gSub (cVar 1) (cK (.int 1)), cVar 2]), cTup (cArgs [cK (.str "falsum")])]))) (sNil))
  (sSeq (sIf (cTest (cBin gIn (cVar 4) (cTup (cArgs [cK (.int 3), cK (.int 4)])))) (sRet (cTup (cArgs [cK (.str "box"), cCall (fun ds => if ds.length = 3 then c_formula ds else M.no) (cArgs [cVar 0, cBin gSub (cVar 1) (cK (.int 1)), cVar 2])]))) (sNil))
  (sSeq (sSet 5 (cCall (fun ds => if ds.length = 3 then c_formula ds else M.no) (cArgs [cVar 0, cBin gSub (cVar 1) (cK (.int 1)), cVar 2])))
  (sRet (cTup (cArgs [cBin gIx (cLst (cArgs [cK (.str "and"), cK (.str "or"), cK (.str "implies"), cK (.str "implies"), cK (.str "or")])) (cBin gSub (cVar 4) (cK (.int 5))), cVar 5, cCall (fun ds => if ds.length = 3 then c_formula ds else M.no) (cArgs [cVar 0, cBin gSub (cVar 1) (cK (.int 1)), cVar 2])])))))))))

def hList (c_draw : List D → M D) : SF :=
  sRet (cComp (.nm 2) [2] (cRng1 (cArgs [cVar 1])) (cYes) (cCall (fun ds => if ds.length = 2 then c_draw ds else M.no) (cArgs [cVar 0, cK (.int 4096)])) kMut)

def hSome (c_formula : List D → M D) (c_list : List D → M D) : SF :=
  sRet (cCall (fun ds => if ds.length = 3 then c_formula ds else M.no) (cArgs [cCall (fun ds => if ds.length = 2 then c_list ds else M.no) (cArgs [cVar 0, cK (.int 40)]), cVar 1, cVar 2]))

end Lw
def PoolOk (d : D) : Prop := ∃ (cs : List Int) (i : Nat) (x k s : Int), d = .lst [.lst (cs.map .int), .int i, .int x, .int k, .int s]
def PoolSpec (f : List D → M D) : Prop := ∀ (ns : List Int), ∃ P, PoolOk P ∧ f [.lst (ns.map .int)] [] [] = .ok (.ref 0) [P]
def SpreadSpec (f : List D → M D) : Prop := ∀ (i : Int) (ro w : List D), ∃ v : Int, f [.int i] ro w = .ok (.int v) w
def DrawSpec (f : List D → M D) : Prop := ∀ (P : D) (r : List D) (m : Int), PoolOk P → 0 < m → m < 1073741824 → ∃ (v : Int) (P' : D), f [.ref 0, .int m] [] (P :: r) = .ok (.int v) (P' :: r) ∧ 0 ≤ v ∧ v < m ∧ PoolOk P'
def ListSpec (f : List D → M D) : Prop := ∀ (P : D) (r : List D) (n : Nat), PoolOk P → n ≤ 1000000 → ∃ (ns : List Int) (P' : D), f [.ref 0, .int n] [] (P :: r) = .ok (.ref (1 + r.length)) (P' :: (r ++ [.lst (ns.map .int)])) ∧ ns.length = n ∧ (∀ v ∈ ns, 0 ≤ v ∧ v < 4096) ∧ PoolOk P'

namespace Lw
theorem pool_loop {ro w : List D} {a : Option D} : ∀ (ns : List Int) (s : Int) (c : Option D), ∃ (s' : Int) (c' : Option D),
    forL (.nm 2) (sSet 1 (cBin gMod (cCall (one gInt) (cArgs [cBin gAdd (cBin gMul (cVar 1) (cK (.int 31))) (cVar 2)])) (cK (.int 1000003)))) (ns.map .int) [a, some (.int s), c] ro w = .go .nx [a, some (.int s'), c'] w
  | [], s, c => ⟨s, c, rfl⟩
  | n :: ns, s, c => by
    obtain ⟨s', c', h⟩ := pool_loop (ro := ro) (w := w) (a := a) ns ((s * 31 + n) % 1000003) (some (.int n))
    refine ⟨s', c', ?_⟩
    rw [← h]
    simp
theorem pool_ok : PoolSpec (runDef 1 3 hPool) := by
  intro ns
  obtain ⟨s, c, h⟩ := pool_loop (ro := []) (w := []) (a := some (.lst (ns.map .int))) (cut ns none (some 63)) 7 none
  refine ⟨_, ⟨ns, 0, 0, 0, s, rfl⟩, ?_⟩
  rw [x_def]
  unfold hPool
  simp [x_for, cut_map, h]
theorem spread_ok : SpreadSpec (runDef 1 4 hSpread) := by
  intro i ro w
  refine ⟨?v, ?_⟩
  rotate_left
  · rw [x_def]
    unfold hSpread
    simp [x_for, rng1_int, rngD_nat, List.range_succ]
    rfl
end Lw
@[simp] theorem atI_lit {α : Type} {xs : List α} {n : Nat} : L2.atI xs (no_index (OfNat.ofNat n : Int)) = xs[n]? := atI_nat
theorem atI_last {α : Type} {xs : List α} : L2.atI xs (-1) = xs[xs.length - 1]? := by
  unfold L2.atI L2.ixN
  rw [if_neg (by decide)]
  cases xs with
  | nil => rfl
  | cons x xs =>
    rw [if_pos (by simp only [List.length_cons]; omega)]
    simp only [Option.bind_some, List.length_cons]
    congr 1
    omega
theorem ixN_nat {m n : Nat} : L2.ixN m (n : Int) = if n < m then some n else none := by
  unfold L2.ixN
  rw [if_pos (Int.natCast_nonneg n)]
  by_cases h : n < m
  · rw [if_pos h, if_pos (Int.ofNat_lt.mpr h)]
    rfl
  · rw [if_neg h, if_neg (fun q => h (Int.ofNat_lt.mp q))]
@[simp] theorem ixN_lit {m n : Nat} : L2.ixN m (no_index (OfNat.ofNat n : Int)) = if n < m then some n else none := ixN_nat
theorem put_own {w : List D} {n : Nat} {k : Int} {v : D} {ds : List D} {j : Nat} (h : w[n]? = some (.lst ds)) (hj : L2.ixN ds.length k = some j) : gPut v (.ref n) (.int k) [] w = .ok .non (w.set n (.lst (ds.set j v))) := by
  unfold gPut mMod
  simp [h, hj]
@[simp] theorem put_0 {k : Nat} {v : D} {ds r : List D} : gPut v (.ref 0) (.int (no_index (OfNat.ofNat k : Int))) [] (.lst ds :: r) = if k < ds.length then .ok .non (.lst (ds.set k v) :: r) else .no := by
  unfold gPut mMod
  by_cases h : k < ds.length <;> simp [h]
@[simp] theorem see_0 {d : D} {r : List D} : see [] (d :: r) (.ref 0) = d := rfl
namespace Lw
/-- the end of a draw -/
theorem draw_end {i : Nat} {x k s m : Int} {cs : List Int} {o : Option D} {r : List D} (h0 : 0 < m) (h1 : m < 1073741824) : ∃ (v : Int) (P' : D), OS.fin ((sSeq (sPut (cVar 0) (cK (.int 3)) (cBin gAdd (cBin gIx (cVar 0) (cK (.int 3))) (cK (.int 1))))
  (sSeq (sIf (cTest (cBin gLe (cBin gIx (cVar 0) (cK (.int 2))) (cK (.int 0)))) (sSeq (sSet 4 (cBin gMod (cCall (one gInt) (cArgs [cBin gAdd (cBin gAdd (cBin gMul (cBin gIx (cVar 0) (cK (.int 4))) (cK (.int 48271))) (cBin gMul (cBin gIx (cVar 0) (cK (.int 3))) (cK (.int 69621)))) (cK (.int 1))])) (cK (.int 2147483647))))
  (sSeq (sSet 4 (cBin gMod (cCall (one gInt) (cArgs [cBin gAdd (cBin gMul (cVar 4) (cK (.int 16807))) (cBin gIx (cVar 0) (cK (.int 3)))])) (cK (.int 2147483629))))
  (sRet (cBin gMod (cBin gDiv (cVar 4) (cK (.int 5))) (cVar 1))))) (sNil))
  (sSeq (sSet 2 (cBin gMod (cCall (one gInt) (cArgs [cBin gIx (cVar 0) (cK (.int 2))])) (cVar 1)))
  (sSeq (sPut (cVar 0) (cK (.int 2)) (cBin gDiv (cBin gIx (cVar 0) (cK (.int 2))) (cVar 1)))
  (sRet (cVar 2)))))) [some (.ref 0), some (.int m), none, o, none] [] (.lst [.lst (cs.map .int), .int i, .int x, .int k, .int s] :: r)) = .ok (.int v) (P' :: r) ∧ 0 ≤ v ∧ v < m ∧ PoolOk P' := by
  have h2 : m.natAbs < 1073741824 := by omega
  by_cases hx : x ≤ 0
  · exact ⟨((s * 48271 + (k + 1) * 69621 + 1) % 2147483647 * 16807 + (k + 1)) % 2147483629 / 5 % m, .lst [.lst (cs.map .int), .int i, .int x, .int (k + 1), .int s], by simp [hx, h0], Int.emod_nonneg _ (by omega), Int.emod_lt_of_pos _ h0, ⟨_, _, _, _, _, rfl⟩⟩
  · exact ⟨x % m, .lst [.lst (cs.map .int), .int i, .int (x / m), .int (k + 1), .int s], by simp [hx, h0, h2], Int.emod_nonneg _ (by omega), Int.emod_lt_of_pos _ h0, ⟨_, _, _, _, _, rfl⟩⟩
theorem draw_ok {c : List D → M D} (hc : SpreadSpec c) : DrawSpec (runDef 2 5 (hDraw c)) := by
  intro P r m ⟨cs, i, x, k, s, hP⟩ h0 h1
  subst hP
  have hl : [D.ref 0, D.int m].length = 2 := rfl
  rw [x_def, if_pos hl]
  unfold hDraw
  rw [x_seq]
  by_cases h : x ≤ 0 ∧ i < cs.length
  · obtain ⟨hx, hi⟩ := h
    obtain ⟨v, hv⟩ := hc cs[i] [] (.lst [.lst (cs.map .int), .int ((i : Int) + 1), .int cs[i], .int k, .int s] :: r)
    by_cases hb : cs[i] < 1000000000000000000
    · obtain ⟨v', P', h1, h2⟩ := draw_end (i := i + 1) (x := v) (k := k) (s := s) (m := m) (cs := cs) (o := some (.int cs[i])) (r := r) h0 h1
      refine ⟨v', P', ?_, h2⟩
      rw [← h1]
      simp [hx, hi, hb, hv, atI_nat]
    · obtain ⟨v', P', h1, h2⟩ := draw_end (i := i + 1) (x := cs[i]) (k := k) (s := s) (m := m) (cs := cs) (o := some (.int cs[i])) (r := r) h0 h1
      refine ⟨v', P', ?_, h2⟩
      rw [← h1]
      simp [hx, hi, hb, atI_nat]
  · obtain ⟨v', P', h1, h2⟩ := draw_end (i := i) (x := x) (k := k) (s := s) (m := m) (cs := cs) (o := none) (r := r) h0 h1
    refine ⟨v', P', ?_, h2⟩
    rw [← h1]
    by_cases hx : x ≤ 0
    · have hi : ¬ i < cs.length := fun q => h ⟨hx, q⟩
      simp [hx, hi]
    · simp [hx]
end Lw
/-! ### more of what is asked -/
def inV (o : Option Bool) (w : List D) : Out D := match o with
  | some b => .ok (.bl b) w
  | none => .no
@[simp] theorem inV_s {b : Bool} {w : List D} : inV (some b) w = .ok (.bl b) w := rfl
theorem x_inV {d e : D} {ro w : List D} : gIn d e ro w = inV (inD d e) w := by
  unfold gIn inV
  cases inD d e <;> rfl
@[simp] theorem in_tup_int {i : Int} {ds : List D} {ro w : List D} : gIn (.int i) (.tup ds) ro w = inV (if ds.all D.sc = true then some (ds.any fun d => d.eqs (.int i)) else none) w := by
  rw [x_inV]
  simp [inD, D.sc]
@[simp] theorem in_tup_str {i : Str} {ds : List D} {ro w : List D} : gIn (.str i) (.tup ds) ro w = inV (if ds.all D.sc = true then some (ds.any fun d => d.eqs (.str i)) else none) w := by
  rw [x_inV]
  simp [inD, D.sc]
@[simp] theorem sc_int {i : Int} : (D.int i).sc = true := rfl
@[simp] theorem sc_str {i : Str} : (D.str i).sc = true := rfl
@[simp] theorem eqs_int {i j : Int} : (D.int i).eqs (.int j) = decide (i = j) := Bool.beq_eq_decide_eq _ _
@[simp] theorem eqs_str {i j : Str} : (D.str i).eqs (.str j) = decide (i = j) := Bool.beq_eq_decide_eq _ _
theorem pop_at0 {w : List D} {n : Nat} {d : D} {ds : List D} (h : w[n]? = some (.lst (d :: ds))) : gPopAt [.int 0] (.ref n) [] w = .ok d (w.set n (.lst ds)) := by
  unfold gPopAt mMod
  have e : seqIndex? 0 (ds.length + 1) = some 0 := (ixN_seq (ixN_nat (m := ds.length + 1) (n := 0))).1
  simp [h, e]
theorem see_own {w : List D} {n : Nat} {d : D} (h : w[n]? = some d) : see [] w (.ref n) = d := by
  rw [see_ref]
  simp [h]

def pqr (x : Str) : Prop := x = "p" ∨ x = "q" ∨ x = "r"
def FormulaSpec (d : Nat) (f : List D → M D) : Prop := ∀ (w : List D) (n : Nat) (ms : List Int) (pl : Bool), w[n]? = some (.lst (ms.map .int)) →
  ∃ (φ : Fm) (ms' : List Int), f [.ref n, .int d, .bl pl] [] w = .ok φ.toD (w.set n (.lst (ms'.map .int))) ∧ φ.ht ≤ d + 1 ∧ φ.Over pqr ∧ (pl = true → φ.plain = true)
def SomeSpec (d : Nat) (f : List D → M D) : Prop := ∀ (P : D) (r : List D) (pl : Bool), PoolOk P → ∃ (φ : Fm) (P' g : D), f [.ref 0, .int d, .bl pl] [] (P :: r) = .ok φ.toD (P' :: (r ++ [g])) ∧ PoolOk P' ∧ φ.ht ≤ d + 1 ∧ φ.Over pqr ∧ (pl = true → φ.plain = true)
theorem rng1_nat {n : Nat} {ro w : List D} (h : n ≤ 4611686018427387903) : gRng1 [.int (n : Int)] ro w = .ok (rngD 0 n) w := by
  rw [rng1_int, if_pos (by omega)]
  rfl
namespace Lw
theorem list_loop {c : List D → M D} (hc : DrawSpec c) {o : Option D} {r : List D} : ∀ (ds : List D) (P : D) (o' : Option D), PoolOk P → ∃ (ns : List Int) (P' : D),
    compR (.nm 2) cYes (cCall (fun ds => if ds.length = 2 then c ds else M.no) (cArgs [cVar 0, cK (.int 4096)])) [some (.ref 0), o, o'] ds [] (P :: r) = .ok (ns.map .int) (P' :: r) ∧ ns.length = ds.length ∧ (∀ v ∈ ns, 0 ≤ v ∧ v < 4096) ∧ PoolOk P'
  | [], P, _, h => ⟨[], P, rfl, rfl, by simp, h⟩
  | d :: ds, P, o', h => by
    obtain ⟨v, P1, h1, h2, h3, h4⟩ := hc P r 4096 h (by decide) (by decide)
    obtain ⟨ns, P2, g1, g2, g3, g4⟩ := list_loop hc (o := o) (r := r) ds P1 o' h4
    refine ⟨v :: ns, P2, ?_, by simp [g2], ?_, g4⟩
    · simp [h1, g1]
    · intro u hu
      rcases List.mem_cons.mp hu with rfl | hu
      · exact ⟨h2, h3⟩
      · exact g3 u hu
theorem list_ok' {c : List D → M D} (hc : DrawSpec c) (P : D) (r : List D) (n : Nat) (hP : PoolOk P) (hs : n ≤ sizeLine) (hb2 : n ≤ 4611686018427387903) : ∃ (ns : List Int) (P' : D), runDef 2 3 (hList c) [.ref 0, .int n] [] (P :: r) = .ok (.ref (1 + r.length)) (P' :: (r ++ [.lst (ns.map .int)])) ∧ ns.length = n ∧ (∀ v ∈ ns, 0 ≤ v ∧ v < 4096) ∧ PoolOk P' := by
  have hl : [D.ref 0, D.int n].length = 2 := rfl
  obtain ⟨ns, P', g1, g2, g3, g4⟩ := list_loop hc (o := some (.int n)) (r := r) (rngD 0 n) P none hP
  have hr : (rngD 0 n).length = n := by simp [rngD]
  refine ⟨ns, P', ?_, by rw [g2, hr], g3, g4⟩
  rw [x_def, if_pos hl]
  unfold hList
  rw [← hr] at hs
  have hd : c = c := rfl
  have hq : cComp (.nm 2) [2] (cRng1 (cArgs [cVar 1])) cYes (cCall (fun ds => if ds.length = 2 then c ds else M.no) (cArgs [cVar 0, cK (.int 4096)])) kMut [some (.ref 0), some (.int n), none] [] (P :: r) = .ok (.ref (1 + r.length)) (P' :: (r ++ [.lst (ns.map .int)])) := by
    rw [x_comp, x_rng1]
    simp only [x_args, x_var, List.getElem?_cons_succ, List.getElem?_cons_zero, ofO_ss, an_ok, x_args0, rng1_nat hb2, if_pos hs, wipeE, List.set_cons_succ, List.set_cons_zero, g1, x_mut, List.length_cons, List.length_nil, Nat.zero_add, List.cons_append]
    rw [Nat.add_comm]
  show (sRet _ [some (.ref 0), some (.int n), none] [] (P :: r)).fin = _
  rw [x_ret, hq]
  rfl
theorem list_ok {c : List D → M D} (hc : DrawSpec c) : ListSpec (runDef 2 3 (hList c)) := fun P r n hP hn =>
  list_ok' hc P r n hP (by have : sizeLine = 16777216 := rfl; omega) (by omega)
end Lw
end Fx
namespace Fx
open PySem PySem.Spec L2
namespace Lw
theorem seq_assoc {a b t : SF} {env : Env} {ro w : List D} : sSeq a (sSeq b t) env ro w = (sSeq a b env ro w).an fun env' w' => t env' ro w' := by
  rw [x_seq, x_seq]
  cases a env ro w with
  | go fl env w =>
    cases fl with
    | nx => simp only [oan_nx, x_seq]
    | _ => rfl
  | _ => rfl
theorem list5 {α : Type} {a b c d e : α} {j : Int} {P : α → Prop} (ha : P a) (hb : P b) (hc : P c) (hd : P d) (he : P e) (h : 0 ≤ j ∧ j < 5) : ∃ x, L2.atI [a, b, c, d, e] j = some x ∧ P x := by
  obtain ⟨h0, h1⟩ := h
  obtain ⟨n, rfl⟩ := Int.eq_ofNat_of_zero_le h0
  rw [atI_nat]
  match n, h1 with
  | 0, _ => exact ⟨a, rfl, ha⟩
  | 1, _ => exact ⟨b, rfl, hb⟩
  | 2, _ => exact ⟨c, rfl, hc⟩
  | 3, _ => exact ⟨d, rfl, hd⟩
  | 4, _ => exact ⟨e, rfl, he⟩
  | n + 5, h => omega
theorem formula_ok {d : Nat} {c : List D → M D} (hc : ∀ d', d = d' + 1 → FormulaSpec d' c) : FormulaSpec d (runDef 3 6 (hFormula c)) := by
  intro w n ms pl hw
  have hl : [D.ref n, D.int d, D.bl pl].length = 3 := rfl
  have hn : n < w.length := (List.getElem?_eq_some_iff.mp hw).1
  -- behind the number
  have key : ∃ (k : Int) (ms' : List Int), (sSeq (sSet 3 (cK (.int 0)))
  ((sIf (cTest (cBin gNe (cVar 0) (cLst (cArgs [])))) (sSet 3 (cCall (one gInt) (cArgs [cMl gPopAt (cVar 0) (cArgs [cK (.int 0)])]))) (sNil)))) [some (.ref n), some (.int d), some (.bl pl), none, none, none] [] w = .go .nx [some (.ref n), some (.int d), some (.bl pl), some (.int k), none, none] (w.set n (.lst (ms'.map .int))) := by
    cases ms with
    | nil =>
      refine ⟨0, [], ?_⟩
      have e : w.set n (.lst []) = w := by
        apply List.ext_getElem?
        intro i
        rw [List.getElem?_set]
        split
        · rename_i q
          subst q
          rw [hw]
          simp [hn]
        · rfl
      have e2 : (D.lst []).eqo = true := eqo_ints (ns := [])
      simp [see_own hw, ne_eqo e2 e2, e]
    | cons m ms =>
      refine ⟨m, ms, ?_⟩
      have e2 : (D.lst []).eqo = true := eqo_ints (ns := [])
      have e3 := eqo_ints (ns := m :: ms)
      have hp := pop_at0 hw
      simp only [List.map_cons] at e3 hw
      simp [see_own hw, ne_eqo e3 e2, hp]
  obtain ⟨k, ms', hk⟩ := key
  rw [x_def, if_pos hl]
  unfold hFormula
  have he : List.map some [D.ref n, D.int d, D.bl pl] ++ List.replicate (6 - 3) none = [some (.ref n), some (.int d), some (.bl pl), none, none, none] := rfl
  rw [he]
  generalize hw1 : w.set n (.lst (ms'.map .int)) = w1 at hk
  have hg : w1[n]? = some (.lst (ms'.map .int)) := by rw [← hw1]; simp [hn]
  have hs : ∀ x, w1.set n x = w.set n x := fun x => by rw [← hw1]; simp
  rw [seq_assoc, hk, oan_nx]
  by_cases h1 : d = 0 ∨ k % 10 < 2
  · by_cases h2 : k / 10 % 8 = 0
    · refine ⟨.fal, ms', ?_, by simp [Fm.ht], trivial, fun _ => rfl⟩
      rw [hw1]
      rcases h1 with h1 | h1
      · simp [h1, h2, Fm.toD]
      · by_cases h0 : d = 0 <;> simp [h1, h2, h0, Fm.toD]
    · obtain ⟨x, hx, y, hy, hp⟩ := list5 (a := D.str "p") (b := .str "q") (c := .str "p") (d := .str "q") (e := .str "r") (j := k / 80 % 5) (P := fun d => ∃ x, d = .str x ∧ pqr x) ⟨_, rfl, .inl rfl⟩ ⟨_, rfl, .inr (.inl rfl)⟩ ⟨_, rfl, .inl rfl⟩ ⟨_, rfl, .inr (.inl rfl)⟩ ⟨_, rfl, .inr (.inr rfl)⟩ ⟨Int.emod_nonneg _ (by decide), Int.emod_lt_of_pos _ (by decide)⟩
      subst hy
      refine ⟨.var y, ms', ?_, by simp [Fm.ht], hp, fun _ => rfl⟩
      rw [hw1]
      rcases h1 with h1 | h1
      · simp [h1, h2, hx, Fm.toD]
      · by_cases h0 : d = 0 <;> simp [h1, h2, h0, hx, Fm.toD]
  · obtain ⟨h0, hk2⟩ : d ≠ 0 ∧ ¬ k % 10 < 2 := ⟨fun q => h1 (.inl q), fun q => h1 (.inr q)⟩
    clear h1
    obtain ⟨d', rfl⟩ : ∃ d', d = d' + 1 := ⟨d - 1, by omega⟩
    obtain ⟨φ, m2, c1, c2, c3, c4⟩ := hc d' rfl w1 n ms' pl hg
    have hg2 : (w1.set n (.lst (m2.map .int)))[n]? = some (.lst (m2.map .int)) := by
      rw [← hw1]
      simp [hn]
    have e0 : ((d' : Int) + 1 = 0) = False := by
      apply eq_false
      omega
    have e1 : (d' : Int) + 1 - 1 = d' := by omega
    rw [hs] at c1
    by_cases h2 : k % 10 = 2
    · refine ⟨.imp φ .fal, m2, ?_, by simp only [Fm.ht]; omega, ⟨c3, trivial⟩, fun q => by simp [Fm.plain, c4 q]⟩
      simp [h2, e0, c1, Fm.toD]
    · by_cases h3 : k % 10 = 3 ∨ k % 10 = 4
      · have hkk : (3 = k % 10 ∨ 4 = k % 10) = True := by
          apply eq_true
          omega
        cases pl with
        | true =>
          refine ⟨.imp φ .fal, m2, ?_, by simp only [Fm.ht]; omega, ⟨c3, trivial⟩, fun q => by simp [Fm.plain, c4 q]⟩
          simp [hk2, h2, hkk, e0, c1, Fm.toD]
        | false =>
          refine ⟨.box φ, m2, ?_, by simp only [Fm.ht]; omega, c3, fun q => by simp at q⟩
          simp [hk2, h2, hkk, e0, c1, Fm.toD]
      · have hkk : (3 = k % 10 ∨ 4 = k % 10) = False := by
          apply eq_false
          omega
        obtain ⟨ψ, m3, b1, b2, b3, b4⟩ := hc d' rfl (w1.set n (.lst (m2.map .int))) n m2 pl hg2
        rw [hs, List.set_set] at b1
        obtain ⟨x, hx, f, hf⟩ := list5 (a := D.str "and") (b := .str "or") (c := .str "implies") (d := .str "implies") (e := .str "or") (j := k % 10 - 5) (P := fun d => ∃ f : Fm → Fm → Fm, ∀ φ ψ, (f φ ψ).toD = .tup [d, φ.toD, ψ.toD] ∧ (f φ ψ).ht = max φ.ht ψ.ht + 1 ∧ (φ.Over pqr → ψ.Over pqr → (f φ ψ).Over pqr) ∧ (φ.plain = true → ψ.plain = true → (f φ ψ).plain = true))
          ⟨.and, fun _ _ => ⟨rfl, rfl, fun a b => ⟨a, b⟩, fun a b => by simp [Fm.plain, a, b]⟩⟩ ⟨.or, fun _ _ => ⟨rfl, rfl, fun a b => ⟨a, b⟩, fun a b => by simp [Fm.plain, a, b]⟩⟩ ⟨.imp, fun _ _ => ⟨rfl, rfl, fun a b => ⟨a, b⟩, fun a b => by simp [Fm.plain, a, b]⟩⟩ ⟨.imp, fun _ _ => ⟨rfl, rfl, fun a b => ⟨a, b⟩, fun a b => by simp [Fm.plain, a, b]⟩⟩ ⟨.or, fun _ _ => ⟨rfl, rfl, fun a b => ⟨a, b⟩, fun a b => by simp [Fm.plain, a, b]⟩⟩ (by omega)
        refine ⟨f φ ψ, m3, ?_, by rw [(hf φ ψ).2.1]; omega, (hf φ ψ).2.2.1 c3 b3, fun q => (hf φ ψ).2.2.2 (c4 q) (b4 q)⟩
        simp [hk2, h2, hkk, e0, c1, b1, hx, (hf φ ψ).1]
theorem some_ok {d : Nat} {c1 c2 : List D → M D} (h1 : FormulaSpec d c1) (h2 : ListSpec c2) : SomeSpec d (runDef 3 3 (hSome c1 c2)) := by
  intro P r pl hP
  obtain ⟨ns, P', a1, a2, a3, a4⟩ := h2 P r 40 hP (by decide)
  obtain ⟨φ, ms', b1, b2, b3, b4⟩ := h1 (P' :: (r ++ [.lst (ns.map .int)])) (1 + r.length) ns pl (by
    rw [Nat.add_comm, List.getElem?_cons_succ]
    simp)
  refine ⟨φ, P', .lst (ms'.map .int), ?_, a4, b2, b3, b4⟩
  have hl : [D.ref 0, D.int d, D.bl pl].length = 3 := rfl
  have e : (P' :: (r ++ [D.lst (ns.map .int)])).set (1 + r.length) (.lst (ms'.map .int)) = P' :: (r ++ [.lst (ms'.map .int)]) := by
    rw [Nat.add_comm, List.set_cons_succ]
    simp
  rw [x_def, if_pos hl]
  unfold hSome
  have a1' : c2 [D.ref 0, D.int 40] [] (P :: r) = _ := a1
  simp [a1', b1, e]
end Lw
end Fx
namespace Fx
open PySem PySem.Spec L2
/-! ### _law_same on the same data -/
mutual
def D.smy : D → Bool
  | .non => true
  | .bl _ => true
  | .int _ => true
  | .str x => PyData.strOk x
  | .tup ds => decide (ds.length ≤ 4611686018427387903) && D.smys ds
  | .lst ds => decide (ds.length ≤ 4611686018427387903) && D.smys ds
  | _ => false
def D.smys : List D → Bool
  | [] => true
  | d :: ds => d.smy && D.smys ds
end
theorem smys_iff {ds : List D} : D.smys ds = true ↔ ∀ d ∈ ds, d.smy = true := by
  induction ds with
  | nil => simp [D.smys]
  | cons d ds ih => simp [D.smys, ih]
theorem Fm.smy : ∀ φ : Fm, φ.Over (fun x => PyData.strOk x = true) → φ.toD.smy = true
  | .fal, _ => by simp [Fm.toD, D.smy, D.smys]
  | .var _, h => by
    have h' := h
    simp only [Fm.Over] at h'
    simp [Fm.toD, D.smy, D.smys, h']
  | .imp a b, h => by simp [Fm.toD, D.smy, D.smys, a.smy h.1, b.smy h.2]
  | .and a b, h => by simp [Fm.toD, D.smy, D.smys, a.smy h.1, b.smy h.2]
  | .or a b, h => by simp [Fm.toD, D.smy, D.smys, a.smy h.1, b.smy h.2]
  | .box a, h => by simp [Fm.toD, D.smy, D.smys, Fm.smy a h]
def SameSpec (n : Nat) (f : List D → M D) : Prop := ∀ (d : D) (ro w : List D), d.smy = true → d.dp ≤ n → f [d, d] ro w = .ok (.bl true) w
@[simp] theorem atI_nat' {α : Type} {xs : List α} {i : Nat} : L2.atI xs (i : Int) = xs[i]? := atI_nat
namespace Lw
theorem same_loop {c : List D → M D} {n : Nat} (hc : SameSpec n c) {D' : D} {ds : List D} (hD : D' = .tup ds ∨ D' = .lst ds) {ro w : List D} (h1 : ∀ d ∈ ds, d.smy = true) (h2 : ∀ d ∈ ds, d.dp ≤ n) : ∀ (is : List Nat) (o : Option D), (∀ i ∈ is, i < ds.length) → ∃ o', forL (.nm 2) (sIf (cNotT (cTru (cCall (fun ds => if ds.length = 2 then c ds else M.no) (cArgs [cBin gIx (cVar 0) (cVar 2), cBin gIx (cVar 1) (cVar 2)])))) (sRet (cK (.bl false))) (sNil)) (is.map fun (i : Nat) => .int (i : Int)) [some D', some D', o] ro w = .go .nx [some D', some D', o'] w
  | [], o, _ => ⟨o, rfl⟩
  | i :: is, o, h => by
    have hi := h i (by simp)
    obtain ⟨o', k⟩ := same_loop hc hD (ro := ro) (w := w) h1 h2 is (some (.int i)) (fun j hj => h j (by simp [hj]))
    refine ⟨o', ?_⟩
    have e : ds[i]? = some ds[i] := by simp [hi]
    have q := hc ds[i] ro w (h1 _ (by simp)) (h2 _ (by simp))
    rw [← k]
    rcases hD with rfl | rfl <;> simp [e, q]
theorem same_ok {n : Nat} {c : List D → M D} (hc : ∀ n', n = n' + 1 → SameSpec n' c) : SameSpec n (runDef 2 3 (hSame c)) := by
  intro d ro w h1 h2
  have hl : [d, d].length = 2 := rfl
  rw [x_def, if_pos hl]
  unfold hSame
  cases d with
  | non => simp [isTy]
  | bl b => simp [isTy]
  | int i => simp [isTy]
  | str x =>
    simp only [D.smy] at h1
    simp [isTy, eq_str h1 h1]
  | tup ds =>
    simp only [D.smy, Bool.and_eq_true, decide_eq_true_eq] at h1
    simp only [D.dp] at h2
    obtain ⟨n, rfl⟩ : ∃ m, n = m + 1 := ⟨n - 1, by omega⟩
    obtain ⟨o', k⟩ := same_loop (hc n rfl) (D' := .tup ds) (ds := ds) (.inl rfl) (ro := ro) (w := w) (smys_iff.mp h1.2) (dps_iff.mp (by omega)) (List.range ds.length) none (by simp)
    rw [← rngD_nat] at k
    simp [isTy, x_for, rng1_nat h1.1, k]
  | lst ds =>
    simp only [D.smy, Bool.and_eq_true, decide_eq_true_eq] at h1
    simp only [D.dp] at h2
    obtain ⟨n, rfl⟩ : ∃ m, n = m + 1 := ⟨n - 1, by omega⟩
    obtain ⟨o', k⟩ := same_loop (hc n rfl) (D' := .lst ds) (ds := ds) (.inr rfl) (ro := ro) (w := w) (smys_iff.mp h1.2) (dps_iff.mp (by omega)) (List.range ds.length) none (by simp)
    rw [← rngD_nat] at k
    simp [isTy, x_for, rng1_nat h1.1, k]
  | _ => simp [D.smy] at h1
end Lw
end Fx
/-! sum, max, min of whole numbers; default= -/
namespace Fx
open PySem PySem.Spec L2
def intsOf : List D → Option (List Int)
  | [] => some []
  | .int i :: r => (intsOf r).map (i :: ·)
  | _ => none
theorem intsOf_eq : ∀ {ds : List D} {ns : List Int}, intsOf ds = some ns → ds = ns.map .int
  | [], ns, h => by
    cases h
    rfl
  | d :: ds, ns, h => by
    cases d with
    | int i =>
      unfold intsOf at h
      cases e : intsOf ds with
      | none => rw [e] at h; cases h
      | some l =>
        rw [e] at h
        cases h
        rw [intsOf_eq e]
        rfl
    | _ => cases h
@[simp] theorem intsOf_map {ns : List Int} : intsOf (ns.map .int) = some ns := by
  induction ns with
  | nil => rfl
  | cons n ns ih => simp [intsOf, ih]
section
variable {C : Cfg} {ρ : Zn} {H : Hp}
theorem Reps.ints : ∀ {ns : List Int} {vs : List V}, Reps C ρ H (ns.map .int) vs → vs = ns.map V.int
  | [], vs, h => h
  | n :: ns, vs, ⟨v, r, e, h1, h2⟩ => by
    rw [e, show v = V.int n from h1, Reps.ints h2]
    rfl
def gSum : D → M D
  | .lst ds => match intsOf ds with
    | some ns => M.pure (.int ns.sum)
    | none => M.no
  | _ => M.no
theorem ok_sum : Ok1 C (rSum C.K) gSum := by
  intro W σ ρ H ro w d x Q hS hd q
  cases d with
  | lst ds =>
    obtain ⟨a, vs, rfl, h, r⟩ := hd.lst
    unfold gSum at q
    cases e : intsOf ds with
    | none => simp only [e] at q; exact (show False from q).elim
    | some ns =>
      simp only [e] at q
      rw [intsOf_eq e] at r
      rw [Reps.ints r] at h
      exact ⟨a, ns, rfl, h, ok_int hS q⟩
  | _ => exact (show False from q).elim
def maxI : List Int → Int
  | [] => 0
  | n :: ns => ns.foldl max n
theorem fold_max : ∀ (ns : List Int) (n m : Int), (m = n ∨ m ∈ ns) → n ≤ m → (∀ y ∈ ns, y ≤ m) → ns.foldl max n = m
  | [], n, m, h, _, _ => by
    rcases h with h | h
    · exact h.symm
    · cases h
  | k :: ns, n, m, h, h1, h2 => by
    rw [List.foldl_cons]
    have hk := h2 k (by simp)
    refine fold_max ns (max n k) m ?_ (by omega) fun y hy => h2 y (by simp [hy])
    rcases h with h | h
    · exact .inl (by omega)
    · rcases List.mem_cons.mp h with h | h
      · exact .inl (by omega)
      · exact .inr h
theorem maxI_eq {ns : List Int} {m : Int} (h1 : m ∈ ns) (h2 : ∀ y ∈ ns, y ≤ m) : maxI ns = m := by
  cases ns with
  | nil => cases h1
  | cons n ns =>
    refine fold_max ns n m ?_ (h2 n (by simp)) fun y hy => h2 y (by simp [hy])
    rcases List.mem_cons.mp h1 with h | h
    · exact .inl h
    · exact .inr h
def gMax : D → M D
  | .lst ds => match intsOf ds with
    | some ns => if 0 < ns.length then M.pure (.int (maxI ns)) else M.no
    | none => M.no
  | _ => M.no
theorem ok_max : Ok1 C (rMax C.K) gMax := by
  intro W σ ρ H ro w d x Q hS hd q
  cases d with
  | lst ds =>
    obtain ⟨a, vs, rfl, h, r⟩ := hd.lst
    unfold gMax at q
    cases e : intsOf ds with
    | none => simp only [e] at q; exact (show False from q).elim
    | some ns =>
      simp only [e] at q
      by_cases c : 0 < ns.length
      · rw [if_pos c] at q
        rw [intsOf_eq e] at r
        rw [Reps.ints r] at h
        refine ⟨a, ns, rfl, h, c, fun m h1 h2 => ?_⟩
        rw [maxI_eq h1 h2] at q
        exact ok_int hS q
      · rw [if_neg c] at q
        exact (show False from q).elim
  | _ => exact (show False from q).elim
end

def rMaxD (K : PySem.W.Frag) : List V → List V → Hp → VK → Prop := fun xs zs H Q => ∃ (a : Addr) (ns : List Int) (d : V), xs = [V.ref a] ∧ zs = [d] ∧ SqL K H a (ns.map V.int) ∧ Q (if ns = [] then d else .int (maxI ns)) H
theorem reads_ints {h : Heap} : ∀ {ns : List Int} {us : List Value}, Vals (ns.map V.int) us → ReadsAll h us (ns.map .int) []
  | [], us, r => by
    cases r
    exact .nil
  | n :: ns, _, .cons h r => by
    obtain ⟨t, rfl⟩ := h
    exact .cons (as := []) (bs := []) (.int _ _) (reads_ints r)
theorem depth_ints : ∀ {ns : List Int}, PyData.depthAll (ns.map .int) = 0
  | [] => rfl
  | n :: ns => by
    have := @depth_ints ns
    simp [PyData.depthAll, PyData.depth, this]
theorem cf_maxD {X : Cx} (hc : X.calm = true) (hu : X.A.units + 65 < cLine) : CallRK X (.builtin "max") [Str.ofString "default"] (rMaxD X.K) := by
  intro pins s σ H xs zs us ws Q I r rz h
  obtain ⟨a, ns, d, rfl, rfl, hs, q⟩ := h
  obtain rfl := Vals.ref1 r
  obtain ⟨w1, rfl, e1⟩ := vals1 rz
  obtain ⟨its, rv, hl, _⟩ := I.list hs
  refine PySem.W.max_list_default (I.ok.hd hc) hl.isList (reads_ints rv) ⟨?_, ?_⟩ ?_ ?_ ?_
  · intro x hx y hy
    obtain ⟨i, _, rfl⟩ := List.mem_map.mp hx
    obtain ⟨j, _, rfl⟩ := List.mem_map.mp hy
    rfl
  · intro x hx
    obtain ⟨i, _, rfl⟩ := List.mem_map.mp hx
    intro e
    cases e
  · rw [depth_ints]
    omega
  · intro e h' tk hk
    rw [List.map_eq_nil_iff] at e
    rw [if_pos e] at q
    exact ⟨d, H, I.kept hk, e1, q⟩
  · intro y ys i v h' tk bs e hv hr hk
    cases ns with
    | nil => cases e
    | cons n ns =>
      cases e
      rw [if_neg (by simp)] at q
      rw [PySem.W.maxD_ints] at hr
      cases hr
      exact ⟨.int _, H, I.kept hk, ⟨_, rfl⟩, q⟩
def gMaxD (d z : D) : M D := match d with
  | .lst ds => match intsOf ds with
    | some ns => if ns = [] then M.pure z else M.pure (.int (maxI ns))
    | none => M.no
  | _ => M.no
def cMaxD (fa fb : EF) : EF := fun env => M.bind (fa env) fun d => M.bind (fb env) fun z => M.bind (M.see d) fun d => gMaxD d z
section
variable {X : Cx} {W : WX} {fa fb : EF} {e e2 : Expr} {p pos kpos : Pos}
theorem pf_maxD (hc : X.calm = true) (hu : X.A.units + 65 < cLine) (hg : Gl X "max") (hm : X.mg "max" = none) (ha : PE X e (tE (cfg X) W fa)) (hb : PE X e2 (tE (cfg X) W fb))
    (hs1 : starEach [e] X.env = (false, eval e X.env) :: starEach [] X.env := by rfl) (he : backTo pos (starEach [e] X.env) = (false, eval e X.env) :: backTo pos (starEach [] X.env) := by rfl) (hpl : (backTo pos (starEach [e] X.env)).any (·.1) = false := by rfl)
    (hall : (backToKw pos (keywordEach [⟨some "default", e2, kpos⟩] X.env)).all (·.1.isSome) = true := by rfl) (hnone : (backToKw pos (keywordEach [⟨some "default", e2, kpos⟩] X.env)).any (·.1.isNone) = false := by rfl) (hks : (backToKw pos (keywordEach [⟨some "default", e2, kpos⟩] X.env)).filterMap (·.1) = [Str.ofString "default"] := by rfl) :
    PE X (.Call (.Name "max" p) [e] [⟨some "default", e2, kpos⟩] pos) (tE (cfg X) W (cMaxD fa fb)) := by
  refine pe_imp (pe_callBK (cf_maxD hc hu) hg hm (by decide +kernel) (pa_cons ha pa_nil hs1) (pk_cons hb pk_nil) (by decide) (by decide) he hpl hall hnone hks) fun σ H Q ⟨ρ, env, ro, w, hS, hE, q⟩ => ?_
  refine tR_seq hS hE q fun d w1 v ρ1 H1 x1 s1 r1 q1 => ?_
  refine tR_seq s1 (hE.ext x1) q1 fun z w2 v2 ρ2 H2 x2 s2 r2 q2 => ?_
  have r1' := seen_of s2 (Rep.ext x2 d r1)
  have q3 : AfterR (cfg X) (Rep (cfg X)) W σ ρ2 H2 ro (gMaxD (see ro w2 d) z ro w2) Q := q2
  generalize see ro w2 d = d' at r1' q3
  cases d' with
  | lst ds =>
    obtain ⟨a, vs, rfl, h, r⟩ := r1'.lst
    unfold gMaxD at q3
    cases e : intsOf ds with
    | none => simp only [e] at q3; exact (show False from q3).elim
    | some ns =>
      simp only [e] at q3
      rw [intsOf_eq e] at r
      rw [Reps.ints r] at h
      refine ⟨a, ns, v2, rfl, rfl, h, ?_⟩
      by_cases c : ns = []
      · rw [if_pos c] at q3 ⊢
        exact ok_same s2 r2 q3
      · rw [if_neg c] at q3 ⊢
        exact ok_int s2 q3
  | _ => exact (show False from q3).elim
end
section
variable {fa fb : EF} {env : Fx.Env} {ro w : List D} {ns : List Int}
@[simp] theorem x_maxD : cMaxD fa fb env ro w = (fa env ro w).an fun d w1 => (fb env ro w1).an fun z w2 => gMaxD (see ro w2 d) z ro w2 := by
  show M.bind (fa env) _ ro w = _
  simp
@[simp] theorem maxD_ints {z : D} : gMaxD (.lst (ns.map .int)) z ro w = .ok (if ns = [] then z else .int (maxI ns)) w := by
  unfold gMaxD
  simp only [intsOf_map]
  by_cases c : ns = [] <;> simp [c]
@[simp] theorem max_ints (h : 0 < ns.length) : gMax (.lst (ns.map .int)) ro w = .ok (.int (maxI ns)) w := by
  unfold gMax
  simp [h]
@[simp] theorem sum_ints : gSum (.lst (ns.map .int)) ro w = .ok (.int ns.sum) w := by
  unfold gSum
  simp
end
end Fx
/-! Formulas taken apart; lists made of lists. -/
namespace Fx
open PySem PySem.Spec L2
section
variable {α : Type} {k : Nat} {fa : EF} {ta : Fx.Env → M Bool} {env : Fx.Env} {ro w : List D}
theorem comp_all {h g : α → D} : ∀ {l : List α}, (∀ a ∈ l, fa (env.set k (some (h a))) ro w = .ok (g a) w) → compR (.nm k) cYes fa env (l.map h) ro w = .ok (l.map g) w
  | [], _ => rfl
  | a :: l, H => by
    have ih := comp_all (h := h) (g := g) (l := l) fun b hb => H b (by simp [hb])
    simp [H a (by simp), ih]
theorem comp_filt {h g : α → D} {p : α → Bool} : ∀ {l : List α}, (∀ a ∈ l, ta (env.set k (some (h a))) ro w = .ok (p a) w) → (∀ a ∈ l, p a = true → fa (env.set k (some (h a))) ro w = .ok (g a) w) → compR (.nm k) ta fa env (l.map h) ro w = .ok ((l.filter p).map g) w
  | [], _, _ => rfl
  | a :: l, H, G => by
    have ih := comp_filt (h := h) (g := g) (p := p) (l := l) (fun b hb => H b (by simp [hb])) (fun b hb => G b (by simp [hb]))
    by_cases c : p a = true
    · simp [H a (by simp), G a (by simp) c, ih, c]
    · have c' : p a = false := by simpa using c
      simp [H a (by simp), ih, c']
end
theorem cut_tail {α : Type} {a : α} {r : List α} : cut (a :: r) (some 1) none = r := by
  unfold cut HT.sIx
  simp
@[simp] theorem see_fm {φ : Fm} {ro w : List D} : see ro w φ.toD = φ.toD := by cases φ <;> rfl
def Fm.tag : Fm → Str
  | .fal => "falsum"
  | .var _ => "var"
  | .imp _ _ => "implies"
  | .and _ _ => "and"
  | .or _ _ => "or"
  | .box _ => "box"
def Fm.parts : Fm → List Fm
  | .fal => []
  | .var _ => []
  | .imp a b => [a, b]
  | .and a b => [a, b]
  | .or a b => [a, b]
  | .box a => [a]
@[simp] theorem Fm.ix0 {φ : Fm} {ro w : List D} : gIx φ.toD (.int 0) ro w = .ok (.str φ.tag) w := by cases φ <;> simp [Fm.toD, Fm.tag]
@[simp] theorem Fm.tag_ok {φ : Fm} : PyData.strOk φ.tag = true := by cases φ <;> exact ok_lit
theorem Fm.leaf {φ : Fm} : φ.parts = [] ↔ (φ.tag = "var" ∨ φ.tag = "falsum") := by cases φ <;> simp [Fm.parts, Fm.tag, ofString_inj]
theorem Fm.sl1 {φ : Fm} {ro w : List D} (h : φ.parts ≠ []) : gSl φ.toD (some 1) none ro w = .ok (.tup (φ.parts.map Fm.toD)) w := by cases φ <;> simp [Fm.toD, Fm.parts, cut_tail] at h ⊢
@[simp] theorem Fm.tag_box {φ : Fm} : φ.tag = "box" ↔ ∃ a, φ = .box a := by cases φ <;> simp [Fm.tag, ofString_inj]
@[simp] theorem Fm.tag_var {φ : Fm} : φ.tag = "var" ↔ ∃ a, φ = .var a := by cases φ <;> simp [Fm.tag, ofString_inj]
theorem Fm.part_ht {φ ψ : Fm} (h : ψ ∈ φ.parts) : ψ.ht < φ.ht := by
  cases φ <;> simp [Fm.parts] at h <;> (try rcases h with rfl | rfl) <;> (try subst h) <;> simp only [Fm.ht] <;> omega
theorem Fm.part_over {P : Str → Prop} {φ ψ : Fm} (h : ψ ∈ φ.parts) (o : φ.Over P) : ψ.Over P := by
  cases φ <;> simp [Fm.parts] at h <;> (try rcases h with rfl | rfl) <;> (try subst h) <;> first | exact o.1 | exact o.2 | exact o
def Fm.sz : Fm → Nat
  | .fal => 1
  | .var _ => 1
  | .imp a b => a.sz + b.sz + 1
  | .and a b => a.sz + b.sz + 1
  | .or a b => a.sz + b.sz + 1
  | .box a => a.sz + 1
theorem Fm.sz_lt : ∀ φ : Fm, φ.sz < 2 ^ φ.ht
  | .fal => by decide
  | .var _ => by simp [Fm.sz, Fm.ht]
  | .imp a b => by
    have h1 := a.sz_lt
    have h2 := b.sz_lt
    have h3 : 2 ^ a.ht ≤ 2 ^ max a.ht b.ht := Nat.pow_le_pow_right (by decide) (by omega)
    have h4 : 2 ^ b.ht ≤ 2 ^ max a.ht b.ht := Nat.pow_le_pow_right (by decide) (by omega)
    simp only [Fm.sz, Fm.ht, Nat.pow_succ]
    omega
  | .and a b => by
    have h1 := a.sz_lt
    have h2 := b.sz_lt
    have h3 : 2 ^ a.ht ≤ 2 ^ max a.ht b.ht := Nat.pow_le_pow_right (by decide) (by omega)
    have h4 : 2 ^ b.ht ≤ 2 ^ max a.ht b.ht := Nat.pow_le_pow_right (by decide) (by omega)
    simp only [Fm.sz, Fm.ht, Nat.pow_succ]
    omega
  | .or a b => by
    have h1 := a.sz_lt
    have h2 := b.sz_lt
    have h3 : 2 ^ a.ht ≤ 2 ^ max a.ht b.ht := Nat.pow_le_pow_right (by decide) (by omega)
    have h4 : 2 ^ b.ht ≤ 2 ^ max a.ht b.ht := Nat.pow_le_pow_right (by decide) (by omega)
    simp only [Fm.sz, Fm.ht, Nat.pow_succ]
    omega
  | .box a => by
    have h1 := a.sz_lt
    simp only [Fm.sz, Fm.ht, Nat.pow_succ]
    omega
/-- all formulas in it, with repetitions -/
def Fm.all : Fm → List Fm
  | .fal => [.fal]
  | .var x => [.var x]
  | .imp a b => .imp a b :: (a.all ++ b.all)
  | .and a b => .and a b :: (a.all ++ b.all)
  | .or a b => .or a b :: (a.all ++ b.all)
  | .box a => .box a :: a.all
theorem Fm.all_len : ∀ φ : Fm, φ.all.length = φ.sz
  | .fal => rfl
  | .var _ => rfl
  | .imp a b => by simp [Fm.all, Fm.sz, a.all_len, b.all_len]
  | .and a b => by simp [Fm.all, Fm.sz, a.all_len, b.all_len]
  | .or a b => by simp [Fm.all, Fm.sz, a.all_len, b.all_len]
  | .box a => by simp [Fm.all, Fm.sz, a.all_len]
theorem Fm.all_parts (φ : Fm) : φ.all = φ :: φ.parts.flatMap Fm.all := by cases φ <;> simp [Fm.all, Fm.parts]
theorem Fm.part_sz {φ ψ : Fm} (h : ψ ∈ φ.parts) : ψ.sz < φ.sz := by
  cases φ <;> simp [Fm.parts] at h <;> (try rcases h with rfl | rfl) <;> (try subst h) <;> simp only [Fm.sz] <;> omega
theorem pqr_ok (x : Str) (h : pqr x) : PyData.strOk x = true := by
  rcases h with rfl | rfl | rfl <;> exact ok_lit
end Fx
/-! Defs as values. -/
namespace Fx
open PySem PySem.Spec L2
section
variable {X : Cx} {W : WX} {n np i : Nat} {x : Str} {g : List D → M D} {p pos : Pos} {e : Expr} {es : List Expr} {fs : Fx.Env → M (List D)}
theorem pf_fnval (F : CallX X n x g np) (hg : Gl X x) (hd : (x == ("__debug__" : Str)) = false := by decide) : PE X (.Name x pos) (tE (cfg X) W (cK (.fn x))) := by
  obtain ⟨a, fd, ps, hm, hk, hb, hps, ok⟩ := F.ex
  exact pe_imp (pe_glob hg hm (v := .ref a) rfl hd) fun σ H Q ⟨ρ, env, ro, w, hS, hE, q⟩ => ok_same (d := .fn x) hS ⟨a, hm, rfl⟩ q
/-- the defs that a name may hold -/
abbrev Tab := List (Str × Nat × (List D → M D))
def Tab.get (T : Tab) (x : Str) : Option (List D → M D) := match T.find? (fun q => q.1 == x) with
  | some (_, np, g) => some fun ds => if ds.length = np then g ds else M.no
  | none => none
def cCallV (T : Tab) (i : Nat) (fs : Fx.Env → M (List D)) : EF := fun env => match env[i]? with
  | some (some (.fn x)) => (match T.get x with
    | some g => M.bind (fs env) g
    | none => M.no)
  | _ => M.no
def TabOk (X : Cx) (n : Nat) (T : Tab) : Prop := ∀ q ∈ T, CallX X n q.1 q.2.2 q.2.1
theorem tab_nil : TabOk X n [] := fun q h => by cases h
theorem tab_cons {T : Tab} (h : CallX X n x g np) (t : TabOk X n T) : TabOk X n ((x, np, g) :: T) := fun q hq => by
  rcases List.mem_cons.mp hq with rfl | hq
  · exact h
  · exact t q hq
theorem pf_callV {T : Tab} (i : Nat) (hT : TabOk X n T) (hr : Room n X.A) (hx : PassW X W) (ha : PA X (e :: es) (tA (cfg X) W fs)) (hN : X.N[i]? = some x := by rfl) (hv : Vis X.env.scope x := by first | exact Or.inl rfl | exact Or.inr (Or.inl rfl) | exact Or.inr (Or.inr rfl))
    (hdb : (x == ("__debug__" : Str)) = false := by decide) (hcd : (x == ("__classdict__" : Str)) = false := by decide)
    (he : starEach (e :: es) X.env = (false, eval e X.env) :: starEach es X.env := by rfl) (hpl : (backTo pos (starEach es X.env)).any (·.1) = false := by rfl) : PE X (.Call (.Name x p) (e :: es) [] pos) (tE (cfg X) W (cCallV T i fs)) := by
  refine ⟨fun pins s σ H Q I h => ?_⟩
  obtain ⟨ρ, env, ro, w, hS, hE, q⟩ := h
  unfold cCallV at q
  cases e1 : env[i]? with
  | none => rw [e1] at q; exact (show False from q).elim
  | some o =>
    cases o with
    | none => rw [e1] at q; exact (show False from q).elim
    | some d =>
      cases d with
      | fn y =>
        rw [e1] at q
        simp only at q
        cases e2 : T.find? (fun q => q.1 == y) with
        | none =>
          have eT : T.get y = none := by unfold Tab.get; rw [e2]
          rw [eT] at q
          exact (show False from q).elim
        | some r =>
          obtain ⟨y', np, g⟩ := r
          have hy : y' = y := by
            have := List.find?_some e2
            simpa using this
          subst hy
          have F := hT _ (List.mem_of_find?_eq_some e2)
          have eT : T.get y' = some fun ds => if ds.length = np then g ds else M.no := by unfold Tab.get; rw [e2]
          rw [eT] at q
          simp only at q
          obtain ⟨a, fd, ps, hm, hk, hb, hps, ok⟩ := F.ex
          obtain ⟨v, h1, a', h2, h3⟩ := hE.at' i _ e1
          cases hm.symm.trans h2
          subst h3
          refine wpAny_Call_Name_kw (thn ((pe_var (pos := p) hN hv hdb hcd).run pins s σ H (fun v H1 => v = .ref a ∧ H1 = H) I ⟨.ref a, h1, rfl, rfl⟩) fun u s1 ⟨v, H1, I1, r1, q1⟩ => ?_)
          obtain ⟨rfl, rfl⟩ := q1
          cases r1
          refine PySem.W.callWith_K (h₀ := X.base) I.ok.mod.kin hk (thn (ha.run pos pins s1 σ _ (fun vs H2 => spF ⟨X.K, X.mg, X.w⟩ g np vs H2 Q (WE W σ)) I1 ?_) fun us s2 ⟨vs, H2, I2, r, q⟩ => ⟨I2.kIn, ?_⟩) he hpl
          · refine tR_seq hS hE q fun ds w1 vs ρ1 H1 x1 s1 r1 q1 => ?_
            by_cases c : ds.length = np
            · rw [if_pos c] at q1
              exact ⟨ρ1, ds, ro, w1, by rw [← r1.len]; exact c, s1, r1, q1.sig⟩
            · rw [if_neg c] at q1
              exact (show False from q1).elim
          · exact run_fnS ok hr hb (hx σ) I2 r q
      | _ => rw [e1] at q; exact (show False from q).elim
end
@[simp] theorem see_fn {x : Str} {ro w : List D} : see ro w (.fn x) = .fn x := rfl
theorem x_callV {T : Tab} {i : Nat} {x : Str} {g : List D → M D} {fs : Fx.Env → M (List D)} {env : Fx.Env} {ro w : List D} (h : env[i]? = some (some (.fn x))) (hg : T.get x = some g) : cCallV T i fs env ro w = (fs env ro w).an fun ds w1 => g ds ro w1 := by
  unfold cCallV
  rw [h]
  simp only [hg]
  exact x_bind
end Fx
/-! What the program's and the laws' functions of formulas do. -/
namespace Fx
open PySem PySem.Spec L2
def F_parts : SF :=
  sRet (cIf (cTest (cBin gIn (cBin gIx (cVar 0) (cK (.int 0))) (cTup (cArgs [cK (.str "var"), cK (.str "falsum")])))) (cTup (cArgs [])) (cSl (cVar 0) (cPart (cK (.int 1))) (cNoPart)))

def F_law_parts : SF :=
  sRet (cIf (cTest (cBin gIn (cBin gIx (cVar 0) (cK (.int 0))) (cTup (cArgs [cK (.str "var"), cK (.str "falsum")])))) (cLst (cArgs [])) (cCall (one gList) (cArgs [cSl (cVar 0) (cPart (cK (.int 1))) (cNoPart)])))

def F_modal_depth (c_modal_depth : List D → M D) (c_parts : List D → M D) : SF :=
  sRet (cBin gAdd (cCall (one gInt) (cArgs [cBin gEq (cBin gIx (cVar 0) (cK (.int 0))) (cK (.str "box"))])) (cMaxD (cComp (.nm 1) [1] (cSeq (cCall (fun ds => if ds.length = 1 then c_parts ds else M.no) (cArgs [cVar 0]))) (cYes) (cCall (fun ds => if ds.length = 1 then c_modal_depth ds else M.no) (cArgs [cVar 1])) kStill) (cK (.int 0))))

def F_law_depth (c_law_depth : List D → M D) (c_law_parts : List D → M D) : SF :=
  sRet (cBin gAdd (cCall (one gInt) (cArgs [cBin gEq (cBin gIx (cVar 0) (cK (.int 0))) (cK (.str "box"))])) (cCall (one gMax) (cArgs [cBin gAdd (cComp (.nm 1) [1] (cSeq (cCall (fun ds => if ds.length = 1 then c_law_parts ds else M.no) (cArgs [cVar 0]))) (cYes) (cCall (fun ds => if ds.length = 1 then c_law_depth ds else M.no) (cArgs [cVar 1])) kStill) (cLst (cArgs [cK (.int 0)]))])))

def F_is_plain (c_modal_depth : List D → M D) : SF :=
  sRet (cBin gEq (cCall (fun ds => if ds.length = 1 then c_modal_depth ds else M.no) (cArgs [cVar 0])) (cK (.int 0)))

def F_law_all (c_law_all : List D → M D) (c_law_parts : List D → M D) : SF :=
  sSeq (sSet 1 (cLst (cArgs [cVar 0])))
  (sSeq (sFor (.nm 2) (cSeq (cCall (fun ds => if ds.length = 1 then c_law_parts ds else M.no) (cArgs [cVar 0]))) (sSet 1 (cBin gAdd (cVar 1) (cCall (fun ds => if ds.length = 1 then c_law_all ds else M.no) (cArgs [cVar 2])))))
  (sRet (cVar 1)))

def F_neg : SF :=
  sRet (cTup (cArgs [cK (.str "implies"), cVar 0, cK (.tup [.str "falsum"])]))

def F_law_not : SF :=
  sRet (cTup (cArgs [cK (.str "implies"), cVar 0, cTup (cArgs [cK (.str "falsum")])]))

def F_verum (c_neg : List D → M D) : SF :=
  sRet (cCall (fun ds => if ds.length = 1 then c_neg ds else M.no) (cArgs [cK (.tup [.str "falsum"])]))

def F_height (c_height : List D → M D) (c_parts : List D → M D) : SF :=
  sRet (cBin gAdd (cK (.int 1)) (cMaxD (cComp (.nm 1) [1] (cSeq (cCall (fun ds => if ds.length = 1 then c_parts ds else M.no) (cArgs [cVar 0]))) (cYes) (cCall (fun ds => if ds.length = 1 then c_height ds else M.no) (cArgs [cVar 1])) kStill) (cK (.int 0))))

def F_size (c_parts : List D → M D) (c_size : List D → M D) : SF :=
  sRet (cBin gAdd (cK (.int 1)) (cCall (one gSum) (cArgs [cComp (.nm 1) [1] (cSeq (cCall (fun ds => if ds.length = 1 then c_parts ds else M.no) (cArgs [cVar 0]))) (cYes) (cCall (fun ds => if ds.length = 1 then c_size ds else M.no) (cArgs [cVar 1])) kStill])))


namespace Fo
theorem leaf_t {φ : Fm} (h : φ.parts = []) : (Str.ofString "var" = φ.tag ∨ Str.ofString "falsum" = φ.tag) = True := eq_true (by
  rcases Fm.leaf.mp h with h | h
  · exact .inl h.symm
  · exact .inr h.symm)
theorem leaf_f {φ : Fm} (h : ¬ φ.parts = []) : (Str.ofString "var" = φ.tag ∨ Str.ofString "falsum" = φ.tag) = False := eq_false (by
  intro q
  apply h
  apply Fm.leaf.mpr
  rcases q with q | q
  · exact .inl q.symm
  · exact .inr q.symm)
theorem small_parts {φ : Fm} : φ.parts.length ≤ sizeLine := by
  have : sizeLine = 16777216 := rfl
  cases φ <;> simp [Fm.parts, this]
theorem small_parts' {φ : Fm} : φ.parts.length + 1 ≤ sizeLine := by
  have : sizeLine = 16777216 := rfl
  cases φ <;> simp [Fm.parts, this]
theorem map_int {l : List Fm} {f : Fm → Int} : l.map (fun ψ => D.int (f ψ)) = (l.map f).map .int := by simp
def top (l : List Int) : Int := if l = [] then 0 else maxI l
theorem top_0 (l : List Int) (h : ∀ x ∈ l, 0 ≤ x) : maxI (l ++ [0]) = top l := by
  cases l with
  | nil => rfl
  | cons a l =>
    have ha := h a (by simp)
    simp only [top, maxI, List.cons_append, List.foldl_append, List.foldl_cons, List.foldl_nil]
    rw [if_neg (by simp)]
    have : ∀ (l : List Int) (a : Int), 0 ≤ a → 0 ≤ l.foldl max a := by
      intro l
      induction l with
      | nil => intro a h; exact h
      | cons b l ih => intro a h; exact ih _ (by omega)
    have := this l a ha
    omega
theorem ht_eq (φ : Fm) : (φ.ht : Int) = 1 + top (φ.parts.map fun ψ => (ψ.ht : Int)) := by
  cases φ <;> simp [Fm.parts, Fm.ht, top, maxI] <;> omega
theorem sz_eq (φ : Fm) : (φ.sz : Int) = 1 + (φ.parts.map fun ψ => (ψ.sz : Int)).sum := by
  cases φ <;> simp [Fm.parts, Fm.sz] <;> omega
def md : Fm → Nat
  | .fal => 0
  | .var _ => 0
  | .imp a b => max (md a) (md b)
  | .and a b => max (md a) (md b)
  | .or a b => max (md a) (md b)
  | .box a => md a + 1
def isBox : Fm → Bool
  | .box _ => true
  | _ => false
theorem md_eq (φ : Fm) : (md φ : Int) = (if isBox φ = true then 1 else 0) + top (φ.parts.map fun ψ => (md ψ : Int)) := by
  cases φ <;> simp [Fm.parts, md, top, maxI, isBox] <;> omega
theorem isBox_tag (φ : Fm) : decide (φ.tag = "box") = isBox φ := by
  cases φ <;> simp [Fm.tag, isBox, ofString_inj]
theorem md_0 : ∀ φ : Fm, md φ = 0 ↔ φ.all.filter isBox = []
  | .fal => by simp [md, Fm.all, isBox]
  | .var _ => by simp [md, Fm.all, isBox]
  | .imp a b => by
    have h1 := md_0 a
    have h2 := md_0 b
    have e : max (md a) (md b) = 0 ↔ md a = 0 ∧ md b = 0 := by omega
    simp only [md, Fm.all, isBox, List.filter_cons, List.filter_append, List.append_eq_nil_iff, e, h1, h2]
    simp
  | .and a b => by
    have h1 := md_0 a
    have h2 := md_0 b
    have e : max (md a) (md b) = 0 ↔ md a = 0 ∧ md b = 0 := by omega
    simp only [md, Fm.all, isBox, List.filter_cons, List.filter_append, List.append_eq_nil_iff, e, h1, h2]
    simp
  | .or a b => by
    have h1 := md_0 a
    have h2 := md_0 b
    have e : max (md a) (md b) = 0 ↔ md a = 0 ∧ md b = 0 := by omega
    simp only [md, Fm.all, isBox, List.filter_cons, List.filter_append, List.append_eq_nil_iff, e, h1, h2]
    simp
  | .box a => by simp [md, Fm.all, isBox]
theorem maxD_0 {l : List Int} {ro w : List D} : gMaxD (.lst (l.map .int)) (.int 0) ro w = .ok (.int (top l)) w := by
  rw [maxD_ints]
  unfold top
  by_cases h : l = [] <;> simp [h]
theorem nonneg {l : List Fm} {f : Fm → Nat} : ∀ x ∈ l.map (fun ψ => (f ψ : Int)), 0 ≤ x := by
  intro x hx
  obtain ⟨ψ, _, rfl⟩ := List.mem_map.mp hx
  exact Int.natCast_nonneg _
theorem app0 {l : List Int} : l.map D.int ++ [.int 0] = (l ++ [0]).map .int := by simp
theorem len0 {φ : Fm} {f : Fm → Int} : (φ.parts.map f).length + 1 ≤ sizeLine := by
  rw [List.length_map]
  exact small_parts'
theorem box_if (φ : Fm) : (if φ.tag = "box" then (1 : Int) else 0) = if isBox φ = true then 1 else 0 := by
  cases φ <;> simp [Fm.tag, isBox, ofString_inj]

end Fo
open Fo
def F1 (g : Fm → D) (k : Nat) (f : List D → M D) : Prop := ∀ (φ : Fm) (ro w : List D), φ.ht ≤ k → f [φ.toD] ro w = .ok (g φ) w
abbrev gP (φ : Fm) : D := .tup (φ.parts.map Fm.toD)
abbrev gL (φ : Fm) : D := .lst (φ.parts.map Fm.toD)
abbrev gMd (φ : Fm) : D := .int (md φ)
abbrev gHt (φ : Fm) : D := .int φ.ht
abbrev gSz (φ : Fm) : D := .int φ.sz
abbrev gPl (φ : Fm) : D := .bl (decide (md φ = 0))
abbrev gAl (φ : Fm) : D := .lst (φ.all.map Fm.toD)
namespace Pw
theorem parts_ok {k : Nat} : F1 gP k (runDef 1 1 F_parts) := by
  intro φ ro w _
  by_cases h : φ.parts = []
  · simp [x_def, F_parts, leaf_t h, h]
  · simp [x_def, F_parts, leaf_f h, Fm.sl1 h]
theorem lparts_ok {k : Nat} : F1 gL k (runDef 1 1 F_law_parts) := by
  intro φ ro w _
  by_cases h : φ.parts = []
  · simp [x_def, F_law_parts, leaf_t h, h]
  · simp [x_def, F_law_parts, leaf_f h, Fm.sl1 h]
theorem step {g : Fm → D} {f : Fm → Int} {c : List D → M D} {k : Nat} {φ : Fm} {ro w : List D} {env : Fx.Env} {i : Nat} (hf : ∀ ψ, g ψ = .int (f ψ)) (hi : i < env.length) (hk : φ.ht ≤ k + 1) (hc : F1 g k c) : compR (.nm i) cYes (cCall (fun ds => if ds.length = 1 then c ds else M.no) (cArgs [cVar i])) env (φ.parts.map Fm.toD) ro w = .ok ((φ.parts.map f).map .int) w := by
  rw [← map_int]
  refine comp_all fun ψ hψ => ?_
  have h := Fm.part_ht hψ
  have := hc ψ ro w (by omega)
  simp [hi, this, hf]
theorem depth_ok {k : Nat} {c p : List D → M D} (hp : F1 gP k p) (hc : ∀ k', k = k' + 1 → F1 gMd k' c) : F1 gMd k (runDef 1 2 (F_modal_depth c p)) := by
  intro φ ro w hk
  obtain ⟨m, rfl⟩ : ∃ m, k = m + 1 := ⟨k - 1, by have := φ.ht_pos; omega⟩
  have s := step (φ := φ) (ro := ro) (w := w) (env := [some φ.toD, none]) (i := 1) (f := fun ψ => (md ψ : Int)) (fun _ => rfl) (Nat.lt_succ_self 1) hk (hc m rfl)
  have h1 := hp φ ro w hk
  simp [x_def, F_modal_depth, x_comp, h1, small_parts, wipeE, s, maxD_0, gMd, md_eq φ, eq_str, box_if, -Fm.tag_box, -List.map_map, -maxD_ints]
theorem height_ok {k : Nat} {c p : List D → M D} (hp : F1 gP k p) (hc : ∀ k', k = k' + 1 → F1 gHt k' c) : F1 gHt k (runDef 1 2 (F_height c p)) := by
  intro φ ro w hk
  obtain ⟨m, rfl⟩ : ∃ m, k = m + 1 := ⟨k - 1, by have := φ.ht_pos; omega⟩
  have s := step (φ := φ) (ro := ro) (w := w) (env := [some φ.toD, none]) (i := 1) (f := fun ψ => (ψ.ht : Int)) (fun _ => rfl) (Nat.lt_succ_self 1) hk (hc m rfl)
  have h1 := hp φ ro w hk
  simp [x_def, F_height, x_comp, h1, small_parts, wipeE, s, maxD_0, gHt, ht_eq φ, -List.map_map, -maxD_ints]
theorem size_ok {k : Nat} {c p : List D → M D} (hp : F1 gP k p) (hc : ∀ k', k = k' + 1 → F1 gSz k' c) : F1 gSz k (runDef 1 2 (F_size p c)) := by
  intro φ ro w hk
  obtain ⟨m, rfl⟩ : ∃ m, k = m + 1 := ⟨k - 1, by have := φ.ht_pos; omega⟩
  have s := step (φ := φ) (ro := ro) (w := w) (env := [some φ.toD, none]) (i := 1) (f := fun ψ => (ψ.sz : Int)) (fun _ => rfl) (Nat.lt_succ_self 1) hk (hc m rfl)
  have h1 := hp φ ro w hk
  simp [x_def, F_size, x_comp, h1, small_parts, wipeE, s, gSz, sz_eq φ, -List.map_map]
theorem ldepth_ok {k : Nat} {c p : List D → M D} (hp : F1 gL k p) (hc : ∀ k', k = k' + 1 → F1 gMd k' c) : F1 gMd k (runDef 1 2 (F_law_depth c p)) := by
  intro φ ro w hk
  obtain ⟨m, rfl⟩ : ∃ m, k = m + 1 := ⟨k - 1, by have := φ.ht_pos; omega⟩
  have s := step (φ := φ) (ro := ro) (w := w) (env := [some φ.toD, none]) (i := 1) (f := fun ψ => (md ψ : Int)) (fun _ => rfl) (Nat.lt_succ_self 1) hk (hc m rfl)
  have h1 := hp φ ro w hk
  have t := top_0 (φ.parts.map fun ψ => (md ψ : Int)) nonneg
  have z := len0 (φ := φ) (f := fun ψ => (md ψ : Int))
  simp only [List.length_map] at z
  have mx := @max_ints ro w (φ.parts.map (fun ψ => (md ψ : Int)) ++ [0]) (by simp)
  rw [← app0, t] at mx
  simp [x_def, F_law_depth, x_comp, h1, small_parts, wipeE, s, z, mx, gMd, md_eq φ, eq_str, box_if, -Fm.tag_box, -List.map_map, -max_ints]
theorem plain_ok {k : Nat} {c : List D → M D} (hc : F1 gMd k c) : F1 gPl k (runDef 1 1 (F_is_plain c)) := by
  intro φ ro w hk
  have e : ((md φ : Int) = 0) = (md φ = 0) := propext (by omega)
  have := hc φ ro w hk
  simp [x_def, F_is_plain, this, e]
theorem all_loop {n : Nat} {c : List D → M D} {o : Option D} {ro w : List D} : ∀ (l : List Fm) (acc : List Fm) (o' : Option D), (∀ ψ ∈ l, c [ψ.toD] ro w = .ok (gAl ψ) w) → acc.length + (l.flatMap Fm.all).length ≤ sizeLine → ∃ o'',
    forL (.nm 2) (sSet 1 (cBin gAdd (cVar 1) (cCall (fun ds => if ds.length = 1 then c ds else M.no) (cArgs [cVar 2])))) (l.map Fm.toD) [o, some (.lst (acc.map Fm.toD)), o'] ro w = .go .nx [o, some (.lst ((acc ++ l.flatMap Fm.all).map Fm.toD)), o''] w
  | [], acc, o', _, _ => ⟨o', by simp⟩
  | φ :: l, acc, o', h, hl => by
    simp only [List.flatMap_cons, List.length_append] at hl
    obtain ⟨o'', k⟩ := all_loop (n := n) l (acc ++ φ.all) (some φ.toD) (fun ψ hψ => h ψ (by simp [hψ])) (by rw [List.length_append]; omega)
    refine ⟨o'', ?_⟩
    have h1 := h φ (by simp)
    have h2 : acc.length + φ.all.length ≤ sizeLine := by omega
    have e : (acc ++ (φ :: l).flatMap Fm.all) = (acc ++ φ.all) ++ l.flatMap Fm.all := by simp
    rw [e, ← k]
    simp [h1, h2]
theorem two_pow {k : Nat} (h : k ≤ 24) : 2 ^ k ≤ sizeLine := Nat.pow_le_pow_right (by decide) h
/-- for formulas of a height of at most 24 -/
theorem all_ok {k : Nat} (h24 : k ≤ 24) {c p : List D → M D} (hp : F1 gL k p) (hc : ∀ k', k = k' + 1 → F1 gAl k' c) : F1 gAl k (runDef 1 3 (F_law_all c p)) := by
  intro φ ro w hk
  obtain ⟨m, rfl⟩ : ∃ m, k = m + 1 := ⟨k - 1, by have := φ.ht_pos; omega⟩
  have hs : φ.sz ≤ sizeLine := by
    have h1 := φ.sz_lt
    have h2 : 2 ^ φ.ht ≤ 2 ^ (m + 1) := Nat.pow_le_pow_right (by decide) hk
    have h3 := two_pow h24
    omega
  have hq := φ.all_parts
  have hl := φ.all_len
  rw [hq, List.length_cons] at hl
  obtain ⟨o'', k⟩ := all_loop (n := 0) (c := c) (o := some φ.toD) (ro := ro) (w := w) φ.parts [φ] none (fun ψ hψ => hc m rfl ψ ro w (by have := Fm.part_ht hψ; omega)) (by simp only [List.length_cons, List.length_nil]; omega)
  simp only [List.map_cons, List.map_nil] at k
  have h1 := hp φ ro w hk
  simp [x_def, F_law_all, h1, x_for, k, gAl]
  rw [hq]
  simp
end Pw
/-! negation -/
abbrev dFal : D := .tup [.str "falsum"]
def dNot (a : D) : D := .tup [.str "implies", a, .tup [.str "falsum"]]
def NotSpec (f : List D → M D) : Prop := ∀ (a : D) (ro w : List D), f [a] ro w = .ok (dNot a) w
theorem Pw.neg_ok : NotSpec (runDef 1 1 F_neg) := by
  intro a ro w
  simp [x_def, F_neg, dNot]
theorem Pw.lnot_ok : NotSpec (runDef 1 1 F_law_not) := by
  intro a ro w
  simp [x_def, F_law_not, dNot]
theorem Pw.verum_ok {c : List D → M D} (h : NotSpec c) : ∀ ro w, runDef 0 0 (F_verum c) [] ro w = .ok (dNot (.tup [.str "falsum"])) w := by
  intro ro w
  have := h (.tup [.str "falsum"]) ro w
  simp [x_def, F_verum, this]
def Fm.not (a : Fm) : Fm := .imp a .fal
theorem dNot_fm {a : Fm} : dNot a.toD = a.not.toD := rfl
/-- the parts changed -/
def Fm.mapP (g : Fm → Fm) : Fm → Fm
  | .fal => .fal
  | .var x => .var x
  | .imp a b => .imp (g a) (g b)
  | .and a b => .and (g a) (g b)
  | .or a b => .or (g a) (g b)
  | .box a => .box (g a)
theorem mapP_toD {g : Fm → Fm} {φ : Fm} (h : ¬ ∃ x, φ = .var x) : D.tup (.str φ.tag :: φ.parts.map fun ψ => (g ψ).toD) = (φ.mapP g).toD := by
  cases φ with
  | var x => exact absurd ⟨x, rfl⟩ h
  | _ => rfl
theorem mapP_ht {g : Fm → Fm} {φ : Fm} : ∀ n, (∀ ψ ∈ φ.parts, (g ψ).ht ≤ n) → (φ.mapP g).ht ≤ n + 1 := by
  intro n h
  cases φ <;> simp [Fm.parts] at h <;> simp only [Fm.mapP, Fm.ht] <;> omega
/-- part by part, as a list -/
theorem comp_parts {c : List D → M D} {g : Fm → Fm} {φ : Fm} {fa : EF} {i : Nat} {env : Fx.Env} {ro w : List D} (hc : ∀ ψ ∈ φ.parts, fa (env.set i (some ψ.toD)) ro w = .ok (g ψ).toD w) : compR (.nm i) cYes fa env (φ.parts.map Fm.toD) ro w = .ok (φ.parts.map fun ψ => (g ψ).toD) w := comp_all hc
theorem add_tag {x : Str} {l : List D} {ro w : List D} (h : l.length ≤ 2) : gAdd (.tup [.str x]) (.tup l) ro w = .ok (.tup (.str x :: l)) w := by
  rw [add_tup, if_pos]
  · rfl
  · have : sizeLine = 16777216 := rfl
    simp only [List.length_cons, List.length_nil]
    omega
theorem parts_2 {φ : Fm} : φ.parts.length ≤ 2 := by cases φ <;> simp [Fm.parts]
end Fx
/-! Dicts with numbers and texts as keys. -/
namespace Fx
open PySem PySem.Spec L2
def dget : List D → List D → D → Option D
  | q :: ks, x :: xs, k => if keyOf q = keyOf k then some x else dget ks xs k
  | _, _, _ => none
def dhas (ks : List D) (k : D) : Bool := ks.any fun q => decide (keyOf q = keyOf k)
def dputX : List D → List D → D → D → List D
  | q :: ks, x :: xs, k, v => (if keyOf q = keyOf k then v else x) :: dputX ks xs k v
  | _, _, _, _ => []
/-- the dict behind d[k] = v -/
def dput (ks xs : List D) (k v : D) : D := if dhas ks k = true then .dic ks (dputX ks xs k v) else .dic (ks ++ [k]) (xs ++ [v])
section
variable {C : Cfg} {ρ : Zn} {H : Hp}
theorem key_rep {k : D} {y : V} {κ : Key} (h : keyOf k = some κ) (r : Rep C ρ H k y) : y = kV κ := by
  cases k with
  | int i =>
    cases h
    exact r
  | str i =>
    cases h
    exact r
  | _ => cases h
theorem dget_rep {k : D} {κ : Key} (hk : keyOf k = some κ) : ∀ {kvs : List (Key × V)} {ks xs : List D}, ks.map keyOf = kvs.map (fun p => some p.1) → Reps C ρ H xs (kvs.map (·.2)) →
    (∀ d, dget ks xs k = some d → ∃ v, valV kvs κ = some v ∧ Rep C ρ H d v) ∧ (dget ks xs k = none → valV kvs κ = none)
  | [], ks, xs, h1, h2 => by
    have e1 : ks = [] := by simpa using h1
    subst e1
    exact ⟨fun d e => (by cases e), fun _ => rfl⟩
  | p :: kvs, ks, xs, h1, h2 => by
    cases ks with
    | nil => simp at h1
    | cons q ks =>
      cases xs with
      | nil => simp [Reps] at h2
      | cons x xs =>
        obtain ⟨v, r, e, g1, g2⟩ := h2
        simp only [List.map_cons, List.cons.injEq] at e h1
        obtain ⟨e1, e2⟩ := e
        subst e1 e2
        have ih := dget_rep hk (kvs := kvs) (ks := ks) (xs := xs) h1.2 g2
        unfold dget
        rw [h1.1, hk]
        by_cases c : p.1 = κ
        · rw [if_pos (by rw [c]), valV_pos c]
          exact ⟨fun d e => (by cases e; exact ⟨_, rfl, g1⟩), fun e => (by cases e)⟩
        · rw [if_neg (by simpa using c), valV_neg c]
          exact ih
theorem dhas_rep {k : D} {κ : Key} (hk : keyOf k = some κ) {kvs : List (Key × V)} {ks : List D} (h : ks.map keyOf = kvs.map (fun p => some p.1)) : dhas ks k = kvs.any fun kv => decide (kv.1 = κ) := by
  unfold dhas
  have e1 : (ks.any fun q => decide (keyOf q = keyOf k)) = (ks.map keyOf).any fun o => decide (o = keyOf k) := by rw [List.any_map]; rfl
  rw [e1, h, List.any_map, hk]
  congr 1
  funext p
  simp
theorem dputX_rep {k : D} {κ : Key} (hk : keyOf k = some κ) {dv : D} {v : V} (rv : Rep C ρ H dv v) : ∀ {kvs : List (Key × V)} {ks xs : List D}, ks.map keyOf = kvs.map (fun p => some p.1) → Reps C ρ H xs (kvs.map (·.2)) →
    Reps C ρ H (dputX ks xs k dv) ((kvs.map fun kv => if kv.1 = κ then (kv.1, v) else kv).map (·.2))
  | [], ks, xs, h1, h2 => by
    have e1 : ks = [] := by simpa using h1
    subst e1
    exact rfl
  | p :: kvs, ks, xs, h1, h2 => by
    cases ks with
    | nil => simp at h1
    | cons q ks =>
      cases xs with
      | nil => simp [Reps] at h2
      | cons x xs =>
        obtain ⟨v', r, e, g1, g2⟩ := h2
        simp only [List.map_cons, List.cons.injEq] at e h1
        obtain ⟨e1, e2⟩ := e
        subst e1 e2
        have ih := dputX_rep hk rv (kvs := kvs) (ks := ks) (xs := xs) h1.2 g2
        unfold dputX
        rw [h1.1, hk]
        by_cases c : p.1 = κ
        · rw [if_pos (by rw [c])]
          exact ⟨v, _, by simp only [List.map_cons, if_pos c], rv, ih⟩
        · rw [if_neg (by simpa using c)]
          exact ⟨p.2, _, by simp only [List.map_cons, if_neg c], g1, ih⟩
/-- the parts of a dict behind d[k] = v -/
def RepD (C : Cfg) (ρ : Zn) (H : Hp) (d : D) (kvs : List (Key × V)) : Prop := ∃ ks xs, d = .dic ks xs ∧ ks.map keyOf = kvs.map (fun p => some p.1) ∧ Reps C ρ H xs (kvs.map (·.2))
theorem dput_rep {k : D} {κ : Key} (hk : keyOf k = some κ) {dv : D} {v : V} (rv : Rep C ρ H dv v) {kvs : List (Key × V)} {ks xs : List D} (h1 : ks.map keyOf = kvs.map (fun p => some p.1)) (h2 : Reps C ρ H xs (kvs.map (·.2))) : RepD C ρ H (dput ks xs k dv) (putK kvs κ v) := by
  unfold dput putK
  rw [dhas_rep hk h1]
  by_cases c : (kvs.any fun kv => decide (kv.1 = κ)) = true
  · rw [if_pos c, if_pos c]
    refine ⟨ks, _, rfl, ?_, dputX_rep hk rv h1 h2⟩
    rw [h1, List.map_map]
    apply List.map_congr_left
    intro p _
    simp only [Function.comp]
    split <;> rfl
  · rw [if_neg c, if_neg c]
    refine ⟨ks ++ [k], xs ++ [dv], rfl, ?_, ?_⟩
    · simp [h1, hk]
    · rw [List.map_append]
      exact Reps.append h2 (Reps.one rv)
theorem RepD.ext {ρ' : Zn} {H' : Hp} {d : D} {kvs : List (Key × V)} (x : Ext ρ ρ' H H') (h : RepD C ρ H d kvs) : RepD C ρ' H' d kvs := by
  obtain ⟨ks, xs, e, h1, h2⟩ := h
  exact ⟨ks, xs, e, h1, Reps.ext x xs h2⟩
end
section
variable {C : Cfg} {W : WX} {σ : L2.St} {ρ : Zn} {H : Hp} {ro w : List D} {Q : VK}
theorem ok_newD (hS : RepS C ρ H (ro ++ w)) (h : AfterR C (Rep C) W σ ρ H ro (.ok (.ref (ro ++ w).length) (w ++ [.dic [] []])) Q) : ∀ p, H p = none → Q (.ref p) (upd H p (.dK [])) := fun p hp =>
  h _ _ _ (ext_mut hS hp) (by rw [← List.append_assoc]; exact reps_mut hS hp ⟨[], upd_same, rfl, rfl⟩)
    ⟨p, by show (ρ.r ++ [p])[_]? = _; rw [← hS.len, List.getElem?_append_right (Nat.le_refl _), Nat.sub_self]; rfl, rfl⟩
end
def gDGet (o k : D) : M D := match o with
  | .dic ks xs => match dget ks xs k with
    | some d => if (keyOf k).isSome = true then M.pure d else M.no
    | none => M.no
  | _ => M.no
def gDGetD (o k z : D) : M D := match o with
  | .dic ks xs => if (keyOf k).isSome = true then M.pure ((dget ks xs k).getD z) else M.no
  | _ => M.no
def gDIn (o k : D) : M D := match o with
  | .dic ks _ => if (keyOf k).isSome = true then M.pure (.bl (dhas ks k)) else M.no
  | _ => M.no
def gDNotIn (o k : D) : M D := match o with
  | .dic ks _ => if (keyOf k).isSome = true then M.pure (.bl (!dhas ks k)) else M.no
  | _ => M.no
def isDic : D → Bool
  | .dic _ _ => true
  | _ => false
/-- d[k] = v -/
def gDPut (v o k : D) : M D := match o with
  | .ref n => fun ro w => if n < ro.length then .no else match w[n - ro.length]? with
    | some (.dic ks xs) => if (keyOf k).isSome = true ∧ ks.length < sizeLine then .ok .non (w.set (n - ro.length) (dput ks xs k v)) else .no
    | _ => .no
  | _ => M.no
def cDNew : EF := fun _ => mNew (.dic [] [])
def cDGet (fo fk : EF) : EF := fun env => M.bind (fo env) fun o => M.bind (fk env) fun k => M.bind (M.see o) fun o => gDGet o k
def cDGetD (fo fk fz : EF) : EF := fun env => M.bind (fo env) fun o => M.bind (M.see o) fun o' => if isDic o' = true then M.bind (fk env) fun k => M.bind (fz env) fun z => M.bind (M.see o) fun o => gDGetD o k z else M.no
def cDIn (g : D → D → M D) (fk fo : EF) : EF := fun env => M.bind (fk env) fun k => M.bind (fo env) fun o => M.bind (M.see o) fun o => g o k
def sDPutF (fo fk fv : EF) : SF := sLift fv fun v => sLift fo fun o => sLift fk fun k => sLift (fun _ => gDPut v o k) fun _ env _ w => .go .nx env w
section
variable {X : Cx} {W : WX} {fo fk fz fv : EF} {o i e f value : Expr} {p pos pos' apos : Pos}
theorem pf_dnew : PE X (.Dict [] [] pos) (tE (cfg X) W cDNew) := pe_imp pe_dnewK fun σ H Q ⟨ρ, env, ro, w, hS, hE, q⟩ => ok_newD hS q
theorem keySome {k : D} (h : (keyOf k).isSome = true) : ∃ κ, keyOf k = some κ := Option.isSome_iff_exists.mp h
theorem pf_dget (hu : X.A.units + 1 < cLine) (ho : PE X o (tE (cfg X) W fo)) (hi : PE X i (tE (cfg X) W fk)) (hs : NoSl i) : PE X (.Subscript o i pos) (tE (cfg X) W (cDGet fo fk)) :=
  pe_imp (pe_dget hu ho hi hs) fun σ H Q ⟨ρ, env, ro, w, hS, hE, q⟩ => by
    refine tR_seq hS hE q fun d w1 v ρ1 H1 x1 s1 r1 q1 => ?_
    refine tR_seq s1 (hE.ext x1) q1 fun k w2 y ρ2 H2 x2 s2 r2 q2 => ?_
    have r1' := seen_of s2 (Rep.ext x2 d r1)
    have q3 : AfterR (cfg X) (Rep (cfg X)) W σ ρ2 H2 ro (gDGet (see ro w2 d) k ro w2) Q := q2
    generalize see ro w2 d = d' at r1' q3
    cases d' with
    | dic ks xs =>
      obtain ⟨a, kvs, rfl, hd, h1, h2⟩ := r1'.dic
      unfold gDGet at q3
      cases e1 : dget ks xs k with
      | none => simp only [e1] at q3; exact (show False from q3).elim
      | some z =>
        simp only [e1] at q3
        by_cases c : (keyOf k).isSome = true
        · rw [if_pos c] at q3
          obtain ⟨κ, hk⟩ := keySome c
          obtain ⟨v, g1, g2⟩ := (dget_rep hk h1 h2).1 z e1
          exact ⟨a, v, rfl, .inl ⟨kvs, κ, hd, key_rep hk r2, g1.symm⟩, ok_same s2 g2 q3⟩
        · rw [if_neg c] at q3
          exact (show False from q3).elim
    | _ => exact (show False from q3).elim
theorem pf_dgetD (hu : X.A.units + 1 < cLine) (ho : PE X o (tE (cfg X) W fo)) (he : PE X e (tE (cfg X) W fk)) (hf : PE X f (tE (cfg X) W fz)) (m : M2 X o "get" apos e f pos := by exact ⟨rfl, rfl, rfl, rfl⟩) : PE X (.Call (.Attribute o "get" apos) [e, f] [] pos) (tE (cfg X) W (cDGetD fo fk fz)) :=
  pe_imp (pe_dget2 hu ho he hf m) fun σ H Q ⟨ρ, env, ro, w, hS, hE, q⟩ => by
    refine tR_seq hS hE q fun d w1 v ρ1 H1 x1 s1 r1 q1 => ?_
    have r1' := seen_of s1 r1
    have q1' : AfterR (cfg X) (Rep (cfg X)) W σ ρ1 H1 ro ((if isDic (see ro w1 d) = true then M.bind (fk env) fun k => M.bind (fz env) fun z => M.bind (M.see d) fun o => gDGetD o k z else M.no : M D) ro w1) Q := q1
    by_cases c : isDic (see ro w1 d) = true
    · rw [if_pos c] at q1'
      have isd : ∃ a, v = .ref a ∧ IsD H1 a := by
        generalize see ro w1 d = d' at r1' c
        cases d' with
        | dic ks xs =>
          obtain ⟨a, kvs, rfl, hd, h1, h2⟩ := r1'.dic
          exact ⟨a, rfl, .inl ⟨kvs, hd⟩⟩
        | _ => cases c
      obtain ⟨a, rfl, hd⟩ := isd
      refine ⟨a, rfl, hd, ?_⟩
      refine tR_seq s1 (hE.ext x1) q1' fun k w2 y ρ2 H2 x2 s2 r2 q2 => ?_
      refine tR_seq s2 ((hE.ext x1).ext x2) q2 fun z w3 vz ρ3 H3 x3 s3 r3 q3 => ?_
      have r1'' := seen_of s3 (Rep.ext x3 d (Rep.ext x2 d r1))
      have q3' : AfterR (cfg X) (Rep (cfg X)) W σ ρ3 H3 ro (gDGetD (see ro w3 d) k z ro w3) Q := q3
      generalize see ro w3 d = d' at r1'' q3'
      cases d' with
      | dic ks xs =>
        obtain ⟨a', kvs, e0, hd, h1, h2⟩ := r1''.dic
        cases e0
        unfold gDGetD at q3'
        by_cases c : (keyOf k).isSome = true
        · simp only [if_pos c] at q3'
          obtain ⟨κ, hk⟩ := keySome c
          have ey := key_rep hk (Rep.ext x3 k r2)
          cases e1 : dget ks xs k with
          | none =>
            rw [e1] at q3'
            exact ⟨none, .inl ⟨kvs, κ, hd, ey, ((dget_rep hk h1 h2).2 e1).symm⟩, ok_same s3 r3 q3'⟩
          | some u =>
            rw [e1] at q3'
            obtain ⟨v, g1, g2⟩ := (dget_rep hk h1 h2).1 u e1
            exact ⟨some v, .inl ⟨kvs, κ, hd, ey, g1.symm⟩, ok_same s3 g2 q3'⟩
        · simp only [if_neg c] at q3'
          exact (show False from q3').elim
      | _ => exact (show False from q3').elim
    · rw [if_neg c] at q1'
      exact (show False from q1').elim
theorem valV_some {kvs : List (Key × V)} {κ : Key} : (valV kvs κ).isSome = kvs.any fun kv => decide (kv.1 = κ) := (valV_any (kvs := kvs) (k := κ)).symm
theorem tE_din {g : D → D → M D} {r : V → V → Hp → VK → Prop} (hg : ∀ (W : WX) (σ : L2.St) (ρ : Zn) (H : Hp) (ro w : List D) (d k : D) (x y : V) (Q : VK), RepS (cfg X) ρ H (ro ++ w) → Seen (cfg X) ρ H d x → Rep (cfg X) ρ H k y → AfterR (cfg X) (Rep (cfg X)) W σ ρ H ro (g d k ro w) Q → r x y H Q) {σ : L2.St} {H : Hp} {Q : VK} (q : tE (cfg X) W (cDIn g fk fo) σ H Q) : tE (cfg X) W fk σ H fun y H1 => tE (cfg X) W fo σ H1 fun x H2 => r x y H2 Q := by
  obtain ⟨ρ, env, ro, w, hS, hE, q⟩ := q
  refine tR_seq hS hE q fun k w1 y ρ1 H1 x1 s1 r1 q1 => ?_
  refine tR_seq s1 (hE.ext x1) q1 fun d w2 v ρ2 H2 x2 s2 r2 q2 => ?_
  exact hg W σ ρ2 H2 ro w2 _ k v y Q s2 (seen_of s2 r2) (Rep.ext x2 k r1) q2
theorem din_core (b : Bool) {W : WX} {σ : L2.St} {ρ : Zn} {H : Hp} {ro w : List D} {d k : D} {x y : V} {Q : VK} (hS : RepS (cfg X) ρ H (ro ++ w)) (hd : Seen (cfg X) ρ H d x) (hk : Rep (cfg X) ρ H k y)
    (q : AfterR (cfg X) (Rep (cfg X)) W σ ρ H ro ((match d with
      | .dic ks _ => if (keyOf k).isSome = true then M.pure (.bl (if b = true then !dhas ks k else dhas ks k)) else M.no
      | _ => M.no : M D) ro w) Q) : ∃ a o, x = .ref a ∧ DGet H a y o ∧ Q (.bl (if b = true then !o.isSome else o.isSome)) H := by
  cases d with
  | dic ks xs =>
    obtain ⟨a, kvs, rfl, hd, h1, h2⟩ := hd.dic
    by_cases c : (keyOf k).isSome = true
    · simp only [if_pos c] at q
      obtain ⟨κ, e⟩ := keySome c
      rw [dhas_rep e h1, ← valV_some] at q
      exact ⟨a, _, rfl, .inl ⟨kvs, κ, hd, key_rep e hk, rfl⟩, ok_bl hS q⟩
    · simp only [if_neg c] at q
      exact (show False from q).elim
  | _ => exact (show False from q).elim
theorem pf_din (hu : X.A.units + 1 < cLine) (hi : PE X i (tE (cfg X) W fk)) (ho : PE X o (tE (cfg X) W fo)) (hm : behindInMarks .In o = false := by rfl) : PE X (.Compare i [.In] [o] pos) (tE (cfg X) W (cDIn gDIn fk fo)) :=
  pe_imp (pe_cmp (pc_din hu hi ho) hm) fun σ H Q q => tE_din (r := fun x y H Q => ∃ a o, x = .ref a ∧ DGet H a y o ∧ Q (.bl o.isSome) H) (fun W σ ρ H ro w d k x y Q hS hd hk q => by
    have := din_core false hS hd hk (by cases d <;> exact q)
    simpa using this) q
theorem pf_dnotIn (hu : X.A.units + 1 < cLine) (hi : PE X i (tE (cfg X) W fk)) (ho : PE X o (tE (cfg X) W fo)) (hm : behindInMarks .NotIn o = false := by rfl) : PE X (.Compare i [.NotIn] [o] pos) (tE (cfg X) W (cDIn gDNotIn fk fo)) :=
  pe_imp (pe_cmp (pc_dnotin hu hi ho) hm) fun σ H Q q => tE_din (r := fun x y H Q => ∃ a o, x = .ref a ∧ DGet H a y o ∧ Q (.bl (!o.isSome)) H) (fun W σ ρ H ro w d k x y Q hS hd hk q => by
    have := din_core true hS hd hk (by cases d <;> exact q)
    simpa using this) q
def gTIn (b : Bool) (o k : D) : M Bool := match o with
  | .dic ks _ => if (keyOf k).isSome = true then M.pure (if b = true then !dhas ks k else dhas ks k) else M.no
  | _ => M.no
def cTIn (b : Bool) (fk fo : EF) : Fx.Env → M Bool := fun env => M.bind (fk env) fun k => M.bind (fo env) fun o => M.bind (M.see o) fun o => gTIn b o k
theorem tT_din (b : Bool) {σ : L2.St} {H : Hp} {Q : Bool → Hp → Prop} (q : tT (cfg X) W (cTIn b fk fo) σ H Q) : tE (cfg X) W fk σ H fun y H1 => tE (cfg X) W fo σ H1 fun x H2 => ∃ a o, x = .ref a ∧ DGet H2 a y o ∧ ∃ c, V.bl (if b = true then !o.isSome else o.isSome) = .bl c ∧ Q c H2 := by
  obtain ⟨ρ, env, ro, w, hS, hE, q⟩ := q
  refine tR_seq hS hE q fun k w1 y ρ1 H1 x1 s1 r1 q1 => ?_
  refine tR_seq s1 (hE.ext x1) q1 fun d w2 v ρ2 H2 x2 s2 r2 q2 => ?_
  have hd := seen_of s2 r2
  have hk := Rep.ext x2 k r1
  have q3 : AfterR (cfg X) RB W σ ρ2 H2 ro (gTIn b (see ro w2 d) k ro w2) Q := q2
  generalize see ro w2 d = d' at hd q3
  cases d' with
  | dic ks xs =>
    obtain ⟨a, kvs, rfl, hd, h1, h2⟩ := hd.dic
    unfold gTIn at q3
    by_cases c : (keyOf k).isSome = true
    · simp only [if_pos c] at q3
      obtain ⟨κ, e⟩ := keySome c
      rw [dhas_rep e h1, ← valV_some] at q3
      exact ⟨a, _, rfl, .inl ⟨kvs, κ, hd, key_rep e hk, rfl⟩, _, rfl, q3 _ ρ2 H2 .refl s2 rfl⟩
    · simp only [if_neg c] at q3
      exact (show False from q3).elim
  | _ => exact (show False from q3).elim
theorem pt_din (hu : X.A.units + 1 < cLine) (hi : PE X i (tE (cfg X) W fk)) (ho : PE X o (tE (cfg X) W fo)) (hm : behindInMarks .In o = false := by rfl) : PT X (.Compare i [.In] [o] pos) (tT (cfg X) W (cTIn false fk fo)) :=
  pt_imp (pt_cmp (pc_din hu hi ho) hm) fun σ H Q q => tT_din false q
theorem pt_dnotIn (hu : X.A.units + 1 < cLine) (hi : PE X i (tE (cfg X) W fk)) (ho : PE X o (tE (cfg X) W fo)) (hm : behindInMarks .NotIn o = false := by rfl) : PT X (.Compare i [.NotIn] [o] pos) (tT (cfg X) W (cTIn true fk fo)) :=
  pt_imp (pt_cmp (pc_dnotin hu hi ho) hm) fun σ H Q q => tT_din true q
theorem f_dput (hu : X.A.units + 1 < cLine) (hv : PE X value (tE (cfg X) W fv)) (ho : PE X o (tE (cfg X) W fo)) (hi : PE X i (tE (cfg X) W fk)) (hs : swapsWith value (some (.Subscript o i pos')) pos.line X.env = pure false := by rfl) :
    PS X (.Assign [.Subscript o i pos'] value pos) (tS (cfg X) W (sDPutF fo fk fv)) := ps_imp (ps_dput hu ho hi hv hs) fun D σ H ⟨ρ, env, ro, w, hS, hE, q⟩ => by
  refine tS_seq hS hE q fun dv w1 v ρ1 H1 x1 s1 e1 r1 q1 => ?_
  refine tS_seq s1 e1 q1 fun do' w2 vo ρ2 H2 x2 s2 e2 r2 q2 => ?_
  refine tS_seq s2 e2 q2 fun di w3 vi ρ3 H3 x3 s3 e3 r3 q3 => ?_
  have rv := Rep.ext x3 dv (Rep.ext x2 dv r1)
  have ro' := Rep.ext x3 do' r2
  have q4 : AfterR (cfg X) (Rep (cfg X)) W σ ρ3 H3 ro (gDPut dv do' di ro w3) (fun _ H4 => D.nx σ H4) :=
      lift_after (f := fun _ => gDPut dv do' di) e3 q3 fun z w4 v4 ρ4 H4 x4 s4 e4 r4 q4 => q4 σ ρ4 H4 .refl s4 e4
  cases do' with
  | ref n =>
    obtain ⟨a, ha, rfl⟩ := ro'
    by_cases hn : n < ro.length
    · unfold gDPut at q4
      simp only [if_pos hn] at q4
      exact (show False from q4).elim
    · unfold gDPut at q4
      simp only [if_neg hn] at q4
      cases e5 : w3[n - ro.length]? with
      | none => rw [e5] at q4; exact (show False from q4).elim
      | some u =>
        rw [e5] at q4
        cases u with
        | dic ks xs =>
          simp only at q4
          by_cases c : (keyOf di).isSome = true ∧ ks.length < sizeLine
          · rw [if_pos c] at q4
            obtain ⟨κ, hk⟩ := keySome c.1
            have hw : (ro ++ w3)[n]? = some (.dic ks xs) := by
              rw [List.getElem?_append_right (by omega)]
              exact e5
            obtain ⟨kvs, g1, g2, g3⟩ := s3.obj n a _ ha hw
            have hl : kvs.length < sizeLine := by
              have := congrArg List.length g2
              simp only [List.length_map] at this
              omega
            refine ⟨a, _, rfl, .inl ⟨kvs, κ, g1, key_rep hk r3, hl, rfl⟩, ?_⟩
            have z := ok_put (o := .dK (putK kvs κ v)) (v := .non) (Q := fun _ H4 => D.nx σ H4) s3 hn ha (d := dput ks xs di dv) (e := .non) (fun H' x h' => by
              obtain ⟨ks', xs', e, k1, k2⟩ := (dput_rep hk rv g2 g3).ext x
              rw [e]
              exact ⟨_, h', k1, k2⟩) rfl q4
            exact z
          · rw [if_neg c] at q4
            exact (show False from q4).elim
        | _ => exact (show False from q4).elim
  | _ => exact (show False from q4).elim
end
theorem hu1 {k : Nat} {A : Around} (r : Room k A) : A.units + 1 < cLine := by
  have := hu65 r
  omega
section
variable {fo fk fz fv : EF} {env : Fx.Env} {ro w : List D}
@[simp] theorem x_dnew : cDNew env ro w = .ok (.ref (ro.length + w.length)) (w ++ [.dic [] []]) := by
  show mNew _ ro w = _
  simp
@[simp] theorem x_dget : cDGet fo fk env ro w = (fo env ro w).an fun o w1 => (fk env ro w1).an fun k w2 => gDGet (see ro w2 o) k ro w2 := by
  show M.bind (fo env) _ ro w = _
  simp
@[simp] theorem x_dgetD : cDGetD fo fk fz env ro w = (fo env ro w).an fun o w1 => if isDic (see ro w1 o) = true then (fk env ro w1).an fun k w2 => (fz env ro w2).an fun z w3 => gDGetD (see ro w3 o) k z ro w3 else .no := by
  show M.bind (fo env) _ ro w = _
  simp only [x_bind, x_see, an_ok]
  congr
  funext o w1
  by_cases c : isDic (see ro w1 o) = true
  · simp only [if_pos c, x_bind, x_see, an_ok]
  · simp only [if_neg c, x_no]
@[simp] theorem x_din {g : D → D → M D} : cDIn g fk fo env ro w = (fk env ro w).an fun k w1 => (fo env ro w1).an fun o w2 => g (see ro w2 o) k ro w2 := by
  show M.bind (fk env) _ ro w = _
  simp
@[simp] theorem x_tin {b : Bool} : cTIn b fk fo env ro w = (fk env ro w).an fun k w1 => (fo env ro w1).an fun o w2 => gTIn b (see ro w2 o) k ro w2 := by
  show M.bind (fk env) _ ro w = _
  simp
@[simp] theorem isDic_dic {ks xs : List D} : isDic (.dic ks xs) = true := rfl
@[simp] theorem keyOf_str {x : Str} : keyOf (.str x) = some (.inr x) := rfl
@[simp] theorem keyOf_int {x : Int} : keyOf (.int x) = some (.inl x) := rfl
@[simp] theorem dgetD_eq {ks xs : List D} {k z : D} (h : (keyOf k).isSome = true) : gDGetD (.dic ks xs) k z ro w = .ok ((dget ks xs k).getD z) w := by
  unfold gDGetD
  simp [h]
@[simp] theorem dget_nil {k : D} : dget [] [] k = none := rfl
@[simp] theorem din_eq {ks xs : List D} {k : D} (h : (keyOf k).isSome = true) : gDIn (.dic ks xs) k ro w = .ok (.bl (dhas ks k)) w := by
  unfold gDIn
  simp [h]
@[simp] theorem dnotIn_eq {ks xs : List D} {k : D} (h : (keyOf k).isSome = true) : gDNotIn (.dic ks xs) k ro w = .ok (.bl (!dhas ks k)) w := by
  unfold gDNotIn
  simp [h]
theorem dget_eq {ks xs : List D} {k d : D} (h : (keyOf k).isSome = true) (e : dget ks xs k = some d) : gDGet (.dic ks xs) k ro w = .ok d w := by
  unfold gDGet
  simp [h, e]
@[simp] theorem x_dput : sDPutF fo fk fv env ro w = (fv env ro w).st env fun v w1 => (fo env ro w1).st env fun o w2 => (fk env ro w2).st env fun k w3 => (gDPut v o k ro w3).st env fun _ w4 => .go .nx env w4 := by
  refine x_lift.trans (congrArg _ ?_)
  funext v w1
  refine x_lift.trans (congrArg _ ?_)
  funext o w2
  refine x_lift.trans (congrArg _ ?_)
  funext i w3
  exact x_lift
theorem dput_own {n : Nat} {v k : D} {ks xs : List D} (h : w[n]? = some (.dic ks xs)) (hk : (keyOf k).isSome = true) (hl : ks.length < sizeLine) : gDPut v (.ref n) k [] w = .ok .non (w.set n (dput ks xs k v)) := by
  unfold gDPut
  simp [h, hk, hl]
end
end Fx
/-! A list times a number. -/
namespace Fx
open PySem PySem.Spec L2
section
variable {X : Cx}
def rRepL (K : PySem.W.Frag) : R2 := fun x y H Q => ∃ l k xs, x = .ref l ∧ y = .int k ∧ SqL K H l xs ∧ -(2 ^ 63) ≤ k ∧ k < 2 ^ 63 ∧ xs.length * k.toNat ≤ sizeLine ∧
  ∀ p, H p = none → Q (.ref p) (upd H p (.lst (List.replicate k.toNat xs).flatten))
theorem op_repL : OpR X (binaryOp .Mult) (rRepL X.K) := by
  intro pins s σ H x y v u Q I rx ry h
  obtain ⟨l, k, xs, rfl, rfl, hH, h1, h2, hz, q⟩ := h
  cases rx
  obtain ⟨t, rfl⟩ := ry
  obtain ⟨its, r, ⟨⟨cls, dd, data, sl⟩, n, ho, hc, hdn, hd⟩, hlen0⟩ := I.list hH
  have hc1 : cls = Value.type "list" := hc
  have hd1 : data = Data.seq its.toArray n := hd
  subst hc1 hd1
  have hl := r.length
  have hlen : its.toArray.size * k.toNat ≤ sizeLine := by rw [List.size_toArray, ← hl]; exact hz
  have hcap : ¬ its.toArray.size * k.toNat > (2 ^ 63 - 1) / 8 := by
    have : (sizeLine : Nat) ≤ (2 ^ 63 - 1) / 8 := by decide
    omega
  have hfit : ¬ (!Builtin.List.listFitsIndex k) = true := by
    rw [fitsIndex_both h1 h2]
    exact Bool.false_ne_true
  have hlong : ¬ Builtin.List.listTooLong (its.toArray.size * k.toNat) = true := by
    rw [notLongL hlen]
    exact Bool.false_ne_true
  have hnew : List.foldl (fun x1 x2 => x1 ++ x2) #[] (List.replicate (if its.toArray.isEmpty = true then 0 else k.toNat) its.toArray) = (List.replicate k.toNat its).flatten.toArray := by
    have f0 : ∀ m : Nat, List.foldl (fun x1 x2 => x1 ++ x2) #[] (List.replicate m its.toArray) = (List.replicate m its).flatten.toArray := fun m => by
      have := foldl_rep its m []
      rw [List.nil_append] at this
      exact this
    rw [f0]
    cases its with
    | nil => simp
    | cons a r' => rw [if_neg (by simp)]
  refine wpAny_binaryOp_repeat_ref (T := "list") (U := "int") (by decide) ⟨_, ho, rfl⟩ (fun s' => typeIs_int s' k t) noFill_list_mul F.fills_int_mul F.slot_int_rmul repeat_list F.slot_int_index.lookup
    (call_meets F.slot_int_rmul (typeIs_int s k t) F.entry_int_rmul (F.args_int_rmul_2 _ _) (lm_int_rmul_list_any k t l its.toArray n dd sl)
      ⟨ho, rfl, ⟨_, ho, rfl⟩, call_meets F.slot_list_mul ⟨_, ho, rfl⟩ F.entry_list_mul (F.args_list_mul_2 _ _) (lm_list_mul_any l its.toArray n dd sl k t hfit hcap hlong) ⟨ho, ?_⟩⟩)
  rw [hnew]
  exact ⟨.ref _, _, I.lnew (t' := s.toks) (r.rep k.toNat) (by rw [PyProof.Rows.lm_len_rep_flat, Nat.mul_comm]; exact hz), rfl, q _ I.fresh⟩
theorem opf_mul : OpR X (binaryOp .Mult) (fun x y H Q => rI CMul (fun i j => .int (i * j)) x y H Q ∨ rRepL X.K x y H Q) := op_mul.or op_repL
end
/-- number times number, list times number -/
def gMulF (x y : D) : M D := match x, y with
  | .lst ds, .int k => fun _ w => if k.natAbs < 2 ^ 62 ∧ ds.length * k.toNat ≤ sizeLine then .ok (.lst (List.replicate k.toNat ds).flatten) w else .no
  | x, y => gMul x y
theorem Reps.rep {C : Cfg} {ρ : Zn} {H : Hp} {ds : List D} {vs : List V} (r : Reps C ρ H ds vs) : ∀ n : Nat, Reps C ρ H (List.replicate n ds).flatten (List.replicate n vs).flatten
  | 0 => rfl
  | n + 1 => by
    rw [List.replicate_succ, List.replicate_succ, List.flatten_cons, List.flatten_cons]
    exact Reps.append r (Reps.rep r n)
theorem ok2_mulF {C : Cfg} : Ok2 C (fun x y H Q => rI CMul (fun i j => .int (i * j)) x y H Q ∨ rRepL C.K x y H Q) gMulF := by
  intro W σ ρ H ro w d e x y Q hS hd he q
  cases d with
  | lst ds =>
    cases e with
    | int k =>
      obtain ⟨a, vs, rfl, h, r⟩ := hd.lst
      unfold gMulF at q
      by_cases c : k.natAbs < 2 ^ 62 ∧ ds.length * k.toNat ≤ sizeLine
      · simp only [if_pos c] at q
        exact .inr ⟨a, k, vs, rfl, he.int, h, by omega, by omega, by rw [← r.len]; exact c.2, ok_lst hS (r.rep _) q⟩
      · simp only [if_neg c] at q
        exact (show False from q).elim
    | _ => exact (show False from q).elim
  | _ => exact .inl (ok2_mul W σ ρ H ro w _ e x y Q hS hd he (by cases e <;> exact q))
section
variable {ro w : List D}
@[simp] theorem mulF_int {i j : Int} : gMulF (.int i) (.int j) ro w = gMul (.int i) (.int j) ro w := rfl
@[simp] theorem mulF_lst {ds : List D} {k : Int} : gMulF (.lst ds) (.int k) ro w = if k.natAbs < 2 ^ 62 ∧ ds.length * k.toNat ≤ sizeLine then .ok (.lst (List.replicate k.toNat ds).flatten) w else .no := rfl
end
mutual
theorem eqv_self : ∀ d : D, d.flat = true → PyData.eqv d.py d.py = true
  | .non, _ => rfl
  | .bl b, _ => by simp [D.py, PyData.eqv]
  | .int b, _ => by simp [D.py, PyData.eqv]
  | .str b, _ => by simp [D.py, PyData.eqv]
  | .tup ds, h => by
    simp only [D.flat] at h
    simpa only [D.py, PyData.eqv] using eqvs_self ds h
  | .lst ds, h => by
    simp only [D.flat] at h
    simpa only [D.py, PyData.eqv] using eqvs_self ds h
  | .dic _ _, h => by simp [D.flat] at h
  | .dct _ _, h => by simp [D.flat] at h
  | .ins _ _ _, h => by simp [D.flat] at h
  | .fn _, h => by simp [D.flat] at h
  | .ref _, h => by simp [D.flat] at h
theorem eqvs_self : ∀ ds : List D, D.flats ds = true → PyData.eqvAll (D.pys ds) (D.pys ds) = true
  | [], _ => rfl
  | d :: ds, h => by
    simp only [D.flats, Bool.and_eq_true] at h
    simp only [D.pys, PyData.eqvAll, Bool.and_eq_true]
    exact ⟨eqv_self d h.1, eqvs_self ds h.2⟩
end
theorem eq_self' {d : D} {ro w : List D} (h : d.cmp = true) : gEq d d ro w = .ok (.bl true) w := by
  have hf : d.flat = true := by
    simp only [D.cmp, Bool.and_eq_true] at h
    exact h.1
  rw [x_eq, if_pos (by rw [h]; rfl), eqv_self d hf]
theorem ne_self' {d : D} {ro w : List D} (h : d.cmp = true) : gNe d d ro w = .ok (.bl false) w := by
  have hf : d.flat = true := by
    simp only [D.cmp, Bool.and_eq_true] at h
    exact h.1
  rw [x_ne, if_pos (by rw [h]; rfl), eqv_self d hf]
  rfl
theorem cmp_of {d : D} (h1 : d.flat = true) (h2 : d.lay = true) (h3 : d.dp ≤ 64) : d.cmp = true := by
  unfold D.cmp SeqAt.shaped
  rw [D.py_lay, D.py_dp, h1, h2]
  simpa using h3
theorem flats_iff {ds : List D} : D.flats ds = true ↔ ∀ d ∈ ds, d.flat = true := by
  induction ds with
  | nil => simp [D.flats]
  | cons d ds ih => simp [D.flats, ih]
theorem cmp_bools {bs : List Bool} : (D.lst (bs.map .bl)).cmp = true := by
  have h : ∀ d ∈ bs.map D.bl, d.flat = true ∧ d.lay = true ∧ d.dp ≤ 0 := fun d hd => by
    obtain ⟨b, _, rfl⟩ := List.mem_map.mp hd
    exact ⟨rfl, rfl, Nat.le_refl _⟩
  refine cmp_of ?_ ?_ ?_
  · simp only [D.flat]
    exact flats_iff.mpr fun d hd => (h d hd).1
  · simp only [D.lay]
    exact lays_iff.mpr fun d hd => (h d hd).2.1
  · simp only [D.dp]
    have : D.dps (bs.map .bl) ≤ 0 := dps_iff.mpr fun d hd => (h d hd).2.2
    omega
end Fx
/-! Exceptions. -/
namespace Fx
open PySem PySem.Spec L2
/-- an own class over ValueError, without `__init__` -/
structure ExC (K : PySem.W.Frag) (mg : Str → Option Value) (x : Str) : Prop where
  ex : ∃ C, mg x = some (.ref C) ∧ PySem.W.excIn K C [.type "ValueError", .type "Exception", .type "BaseException", .type "object"] "ValueError.__new__" = true ∧ PySem.W.keepIn K (.ref C) = true ∧
    PySem.W.subIn K (.ref C) (.type "BaseException") = some true ∧ PySem.W.typeIn K (.ref C) = some (.type "type")
def sRaise (x : Str) : SF := fun env _ w => .exn x [] [] env w
section
variable {X : Cx} {W : WX} {x m : Str} {j : Nat} {p p2 cpos pos : Pos}
theorem f_raise (E : ExC X.K X.mg x) (hc : X.calm = true) (tk : Takes X W) (hg : Gl X x) (hdb : (x == ("__debug__" : Str)) = false := by decide) :
    PS X (.Raise (some (.Call (.Name x p) [.Constant (.str m) j p2] [] cpos)) none pos) (tS (cfg X) W (sRaise x)) := by
  obtain ⟨C, gC, xC, kC, bC, tC⟩ := E.ex
  refine ps_imp (ps_raise hc tk (pmk_own PySem.F.excBase_ValueError xC gC kC (raises_own bC tC) hg hdb)) fun D σ H ⟨ρ, env, ro, w, hS, hE, q⟩ => ?_
  exact q (.ref C) none σ ρ H .refl hS hE ⟨C, gC, rfl, .inl ⟨rfl, rfl, rfl⟩⟩
@[simp] theorem x_raise {env : Fx.Env} {ro w : List D} : sRaise x env ro w = .exn x [] [] env w := rfl
end
end Fx
set_option maxHeartbeats 2000000
/-! try, except .. as n, else. -/
namespace Fx
open PySem PySem.Spec L2 PyProof.Rows
section
variable {X : Cx} {x n : Str} {c : Value} {i : Nat} {body suite orelse : List Stmt} {b₀ : Stmt} {np pos pos' : Pos} {tb : WX → TS} {ts : Addr → Value → Option Addr → TS} {u : TS} {Wout : WX}
/-- where the exception stands, once it has been looked at -/
theorem not_frame {B h : Heap} {L : List PySem.Env} {o : Obj} {vs : Array Value} {a : Addr} (ff : h.FunFrames B L) (e : h.get? a = some o) (d : o.data = .fields vs) : a ∉ frs L := fun hm => by
  obtain ⟨_, o', e', k⟩ := ff.mem hm
  cases e.symm.trans e'
  exact k _ d
theorem ps_try_asE (ho : PSs X orelse u) (hs : X.stack = X.env :: X.outer) (hf : X.env.frame = some X.env.locals) (hN : X.N.Nodup) (hi : X.N[i]? = some n) (hln : X.env.kindOf n = some .local) (hc : Names X x c) (tk : Takes X Wout)
    (hb : ∀ (W : WX) (pn : List (Addr × Obj)) (xe : Value → Shared → Prop), Takes (X.tr pn xe) W → PassesOwn (model X.prog X.w) X.A X.env xe → PSs (X.tr pn xe) body (tb W))
    (hsu : ∀ (a : Addr) (oe : Obj) (cls : Value) (d : Option Addr) (pn : List (Addr × Obj)), Zc cls d oe → (∃ vs, oe.data = .fields vs) → PSs (X.suite a ((a, oe) :: pn)) (b₀ :: suite) (ts a cls d)) :
    PS X (.Try body [.ExceptHandler (some (.Name x np)) (some n) (b₀ :: suite) pos'] orelse [] pos) (fun D σ H => tb (wAs X.K c i ts Wout D) { D with nx := u D } σ H) := by
  refine ⟨fun pins s σ H D I h => ?_⟩
  let xe' : Value → Shared → Prop := fun e s₁ => wpAny (model X.prog X.w) X.A (noteFrame e X.env) (fun _ s₂ => wpAny (model X.prog X.w) X.A (setFlight e none) (fun _ s₃ =>
    wpAny (model X.prog X.w) X.A (handleBy e X.env [.ExceptHandler (some (.Name x np)) (some n) (b₀ :: suite) pos']) (SP X pins D) X.xe s₃) X.xe s₂) X.xe s₁
  -- what an exception of the body meets
  have tk' : Takes (X.tr (X.pn ++ pins) xe') (wAs X.K c i ts Wout D) := by
    rintro v s' ⟨a, B, sI, pins', σ', H', cls, d, ev, J', nb, up, sky, na, os, ag, b, e1, yes, no⟩
    subst ev
    have J : L2.Inv X pins σ' H' sI := J'.ofTry I.ok
    have sky2 : Sky B (X.env :: X.outer) a (Zc cls d) X.env.locals s'.heap := by
      rw [← hs]
      exact sky
    refine Sky.land Zc.steady (by rw [I.ok.frames, hs]) hf sky2 fun h3 fl up3 => ?_
    obtain ⟨o3, vs3, g3, z3, d3⟩ := fl.there
    have nfr := not_frame fl.2.2.1 g3 d3
    have nL : a ≠ X.env.locals := fun z => nfr (List.mem_filterMap.mpr ⟨X.env, List.mem_cons_self, (by rw [hf, z])⟩)
    have nF : a ∉ X.fs := fun hm => by
      obtain ⟨e, he, q⟩ := List.mem_filterMap.mp hm
      exact nfr (List.mem_filterMap.mpr ⟨e, List.mem_cons_of_mem _ he, q⟩)
    have J3 : L2.Inv X pins σ' H' { s' with heap := h3 } := J.landed nb fl.1 (up.trans up3) os ag
    have I3 := J3.suite g3 d3 na nL nF
    have cls_is : PySem.W.Looks (model X.prog X.w) h3 (typeOf (.ref a)) cls := fun A Q E s k q => wpAny_typeOf_ref (k _ _ g3) (by rw [z3.1]; exact q)
    have named : ∀ {Q : Value → Shared → Prop} {E : Value → Shared → Prop}, Q c { s' with heap := h3 } → wpAny (model X.prog X.w) (X.A.mark (some (.ref a))) (eval (.Name x np) X.env) Q E { s' with heap := h3 } := fun {Q E} q => by
      obtain ⟨hg, hd, hm | ⟨hm, hv, hn⟩⟩ := hc
      · exact ld_glob (X := X.suite a ((a, o3) :: (X.pn ++ pins))) I3 hg hm q hd
      · exact ld_blt (X := X.suite a ((a, o3) :: (X.pn ++ pins))) I3 hg hm hv q hn hd
    refine wpAny_handleBy_cons (codeAny_handlers_test (named ((PySem.W.exm_one (M := model X.prog X.w) J3.kIn cls_is e1).here ?_))) (by intro q; cases q)
    cases b with
    | false =>
      obtain ⟨_, _, _, oe, vs, T, oT, ts', he, hz, hd, h1, hr⟩ := id fl
      refine wpAny_handleBy_nil (wpAny_bind (wpAny_field he hd h1 ?_))
      rw [if_neg (show ¬ ((Value.ref T == Value.none) = true) from by simp)]
      rw [hf]
      refine wpAny_bind ?_
      refine HandSPX.setFlight_upZ (s := { s' with heap := h3 }) (Q := fun _ s4 => wpAny (model X.prog X.w) X.A (throw (.ref a) : Sem Flow) (SP X pins D) X.xe s4) fl fun h4 hh4 up4 => ?_
      refine wpAny_throw (tk _ _ ?_)
      refine ⟨a, B, sI, pins, σ', H', cls, d, rfl, J, nb, (up.trans up3).trans up4, .inr (.inr ?_), na, os, ag, no rfl⟩
      rw [hs]
      exact hh4
    | true =>
      refine codeAny_handlers_suite_as (HandSPX.lands_againZ fl fun h4 fl4 up4 => ?_)
      obtain ⟨o4, vs4, g4, z4, d4⟩ := fl4.there
      have J4 : L2.Inv X pins σ' H' { s' with heap := h4 } := J.landed nb fl4.1 ((up.trans up3).trans up4) os ag
      have I4 := J4.suite g4 d4 na nL nF
      refine store_ok (X := X.suite a ((a, o4) :: (X.pn ++ pins))) (v := .ref a) I4 hN hi (.inl hln) rfl (fun s5 I5 => ?_) (.inr hln)
      have away : ∀ {σ6 : L2.St} {H6 : Hp} {s6 : Shared} {Q : Shared → Prop}, L2.Inv (X.suite a ((a, o4) :: (X.pn ++ pins))) [] σ6 H6 s6 → (∀ s7, L2.Inv X pins (σ6.set i none) H6 s7 → Q s7) →
          wpAny (model X.prog X.w) X.A (do bindName X.env n .none; unbindBehindTheSuite X.env n pos') (fun _ s7 => Q s7) X.xe s6 := fun {σ6 H6 s6 Q} I6 hq => gone_ok (I6.unsuite I.ok) hN hi hln hq
      refine wpAny_mono ((hsu a o4 cls d (X.pn ++ pins) z4 ⟨_, d4⟩).run [] s5 _ H' _ I5 (yes rfl a na)) (fun fw s6 hsp => ?_) fun _ _ z => False.elim z
      cases fw with
      | ret y =>
        obtain ⟨v6, σ6, H6, I6, r6, q6⟩ := hsp
        exact away I6 fun s7 J7 => ⟨_, _, _, J7, r6, q6⟩
      | next =>
        obtain ⟨σ6, H6, I6, q6⟩ := hsp
        exact away I6 fun s7 J7 => ⟨_, _, J7, q6⟩
      | brk =>
        obtain ⟨σ6, H6, I6, q6⟩ := hsp
        exact away I6 fun s7 J7 => ⟨_, _, J7, q6⟩
      | cont =>
        obtain ⟨σ6, H6, I6, q6⟩ := hsp
        exact away I6 fun s7 J7 => ⟨_, _, J7, q6⟩
  refine wpAny_Try_except (wpAny_mono ((hb _ (X.pn ++ pins) xe' tk' PassesOwn.looking).run [] s σ H { D with nx := u D } (I.toTry _) h) (fun f s1 hsp => ?_) fun e s1 he => he)
  cases f with
  | next =>
    obtain ⟨σ', H', J, q⟩ := hsp
    exact ho.run pins s1 σ' H' D (J.ofTry I.ok) q
  | ret v =>
    obtain ⟨y, σ', H', J, r, q⟩ := hsp
    exact ⟨y, σ', H', J.ofTry I.ok, r, q⟩
  | brk =>
    obtain ⟨σ', H', J, q⟩ := hsp
    exact ⟨σ', H', J.ofTry I.ok, q⟩
  | cont =>
    obtain ⟨σ', H', J, q⟩ := hsp
    exact ⟨σ', H', J.ofTry I.ok, q⟩
end
end Fx
/-! Expressions of an except suite: what is known of the name's slot goes along. -/
namespace Fx
open PySem PySem.Spec L2
abbrev tEp (P : L2.St → Prop) (t : TE) : TE := fun σ H Q => P σ ∧ t σ H Q
abbrev tTp (P : L2.St → Prop) (t : TT) : TT := fun σ H Q => P σ ∧ t σ H Q
section
variable {X : Cx} {P : L2.St → Prop} {W : WX} {C : Cfg} {a b e : Expr} {rest : List Expr} {pos : Pos} {ta tb : Fx.Env → M Bool} {fa fb : EF}
theorem pep_of (h : PE X e (tE C W fa)) : PE X e (tEp P (tE C W fa)) := pe_imp h fun _ _ _ q => q.2
theorem ptp_of (h : PT X e (tT C W ta)) : PT X e (tTp P (tT C W ta)) := pt_imp h fun _ _ _ q => q.2
theorem pwp_and1 (ha : PT X a (tTp P (tT C W ta))) : PW X (.BoolOp .And [a] pos) (tTp P (tT C W ta)) := pw_and1 ha
theorem pwp_or1 (ha : PT X a (tTp P (tT C W ta))) : PW X (.BoolOp .Or [a] pos) (tTp P (tT C W ta)) := pw_or1 ha
theorem pwp_and (ha : PT X a (tTp P (tT C W ta))) (hb : PW X (.BoolOp .And (b :: rest) pos) (tTp P (tT C W tb))) : PW X (.BoolOp .And (a :: b :: rest) pos) (tTp P (tT C W (cAndT ta tb))) := pw_imp (pw_and ha hb) fun σ H Q ⟨p, ρ, env, ro, w, hS, hE, q⟩ => by
  refine ⟨p, tR_seq hS hE q fun d w1 v ρ1 H1 x1 s1 r1 q1 => ?_⟩
  cases (show d = v from r1)
  cases d with
  | true => exact ⟨p, ρ1, env, ro, w1, s1, hE.ext x1, q1⟩
  | false => exact q1 false ρ1 H1 .refl s1 rfl
theorem pwp_or (ha : PT X a (tTp P (tT C W ta))) (hb : PW X (.BoolOp .Or (b :: rest) pos) (tTp P (tT C W tb))) : PW X (.BoolOp .Or (a :: b :: rest) pos) (tTp P (tT C W (cOrT ta tb))) := pw_imp (pw_or ha hb) fun σ H Q ⟨p, ρ, env, ro, w, hS, hE, q⟩ => by
  refine ⟨p, tR_seq hS hE q fun d w1 v ρ1 H1 x1 s1 r1 q1 => ?_⟩
  cases (show d = v from r1)
  cases d with
  | true => exact q1 true ρ1 H1 .refl s1 rfl
  | false => exact ⟨p, ρ1, env, ro, w1, s1, hE.ext x1, q1⟩
theorem ptp_not (ha : PT X a (tTp P (tT C W ta))) : PT X (.UnaryOp .Not a pos) (tTp P (tT C W (cNotT ta))) := pt_imp (pt_not ha) fun σ H Q ⟨p, ρ, env, ro, w, hS, hE, q⟩ => by
  refine ⟨p, tR_seq hS hE q fun d w1 v ρ1 H1 x1 s1 r1 q1 => ?_⟩
  cases (show d = v from r1)
  exact q1 (!d) ρ1 H1 .refl s1 rfl
abbrev tSp (P : L2.St → Prop) (t : TS) : TS := fun D σ H => P σ ∧ t D σ H
theorem psp_of {st : Stmt} {f : SF} (h : PS X st (tS C W f)) : PS X st (tSp P (tS C W f)) := ps_imp h fun _ _ _ q => q.2
theorem pssp_of {sts : List Stmt} {f : SF} (h : PSs X sts (tS C W f)) : PSs X sts (tSp P (tS C W f)) := pss_imp h fun _ _ _ q => q.2
theorem fsp_one {st : Stmt} {f : SF} (h : PS X st (tSp P (tS C W f))) : PSs X [st] (tSp P (tS C W f)) := pss_one h
theorem f_retp (h : PE X e (tEp P (tE C W fa))) : PS X (.Return (some e) pos) (tSp P (tS C W (sRet fa))) := ps_imp (ps_ret h) fun D σ H ⟨p, ρ, env, ro, w, hS, hE, q⟩ =>
  ⟨p, tS_seq hS hE q fun d w1 v ρ1 H1 x1 s1 e1 r1 q1 => q1 v ρ1 H1 .refl s1 r1⟩
theorem f_ifp {as bs : List Stmt} {s t : SF} (hc : PT X e (tTp P (tT C W ta))) (ha : PSs X as (tSp P (tS C W s))) (hb : PSs X bs (tSp P (tS C W t))) : PS X (.If e as bs pos) (tSp P (tS C W (sIf ta s t))) := ps_imp (ps_if hc ha hb) fun D σ H ⟨p, ρ, env, ro, w, hS, hE, q⟩ => by
  refine ⟨p, tS_seq hS hE q fun d w1 v ρ1 H1 x1 s1 e1 r1 q1 => ?_⟩
  cases (show d = v from r1)
  cases d with
  | true => exact ⟨p, ρ1, env, ro, w1, s1, e1, q1⟩
  | false => exact ⟨p, ρ1, env, ro, w1, s1, e1, q1⟩
theorem pss_ex {α : Type} {sts : List Stmt} {t : α → TS} (h : ∀ x, PSs X sts (t x)) : PSs X sts (fun D σ H => ∃ x, t x D σ H) := ⟨fun pins s σ H D I ⟨x, q⟩ => (h x).run pins s σ H D I q⟩
end
def cKT (b : Bool) : Fx.Env → M Bool := fun _ => M.pure b
@[simp] theorem x_kt {b : Bool} {env : Fx.Env} {ro w : List D} : cKT b env ro w = .ok b w := rfl
/-! ### try, except X as n, else -/
def sTryAE (i : Nat) (sub : Str → Option Bool) (body : SF) (suite : Str → SF) (orelse : SF) : SF := fun env ro w => match body env ro w with
  | .go .nx env1 w1 => orelse env1 ro w1
  | .exn c [] [] env1 w1 => (match sub c with
    | some true => if i < env1.length then (match suite c (env1.set i none) ro w1 with
      | .go fl env2 w2 => .go fl (env2.set i none) w2
      | _ => .no) else .no
    | some false => .exn c [] [] env1 w1
    | none => .no)
  | .exn _ _ _ _ _ => .no
  | o => o
/-- what a suite knows -/
def Pc (X : Cx) (i : Nat) (c : Str) (a : Addr) (cls : Value) (d : Option Addr) : L2.St → Prop := fun σ => σ[i]? = some (some (.ref a)) ∧ (∃ A, X.mg c = some (.ref A) ∧ cls = .ref A) ∧ d = none
theorem RepE.setN {C : Cfg} {ρ : Zn} {H : Hp} {env : Fx.Env} {σ : L2.St} (h : RepE C ρ H env σ) (i : Nat) (o : Option V) : RepE C ρ H (env.set i none) (σ.set i o) := ⟨by rw [List.length_set, List.length_set]; exact h.len, fun j d e => by
  by_cases c : j = i
  · subst c
    by_cases hl : j < env.length
    · rw [List.getElem?_set_self hl] at e
      cases e
    · rw [List.getElem?_eq_none (by rw [List.length_set]; omega)] at e
      cases e
  · rw [List.getElem?_set_ne (Ne.symm c)] at e ⊢
    exact h.at' j d e⟩
section
variable {X : Cx} {W : WX} {x n : Str} {c : Value} {i : Nat} {body suite orelse : List Stmt} {b₀ : Stmt} {np pos pos' : Pos} {fb fe : SF} {fs : Str → SF} {sub : Str → Option Bool}
theorem f_tryAE (i : Nat) (hsub : ∀ c' b, sub c' = some b → ∀ A, X.mg c' = some (.ref A) → PySem.W.exmOne X.K (.ref A) c = some b) (ho : PSs X orelse (tS (cfg X) W fe)) (hs : X.stack = X.env :: X.outer) (hf : X.env.frame = some X.env.locals) (hN : X.N.Nodup) (hi : X.N[i]? = some n) (hln : X.env.kindOf n = some .local) (hc : Names X x c) (tk : Takes X W)
    (hb : ∀ (W : WX) (pn : List (Addr × Obj)) (xe : Value → Shared → Prop), Takes (X.tr pn xe) W → PassesOwn (model X.prog X.w) X.A X.env xe → PSs (X.tr pn xe) body (tS (cfg X) W fb))
    (hsu : ∀ (c' : Str) (a : Addr) (oe : Obj) (cls : Value) (d : Option Addr) (pn : List (Addr × Obj)), Zc cls d oe → (∃ vs, oe.data = .fields vs) → PSs (X.suite a ((a, oe) :: pn)) (b₀ :: suite) (tSp (Pc X i c' a cls d) (tS (cfg X) W0 (fs c')))) :
    PS X (.Try body [.ExceptHandler (some (.Name x np)) (some n) (b₀ :: suite) pos'] orelse [] pos) (tS (cfg X) W (sTryAE i sub fb fs fe)) := by
  refine ps_imp (ps_try_asE (tb := fun W => tS (cfg X) W fb) (ts := fun a cls d D σ H => ∃ c', tSp (Pc X i c' a cls d) (tS (cfg X) W0 (fs c')) D σ H) ho hs hf hN hi hln hc tk hb fun a oe cls d pn hz hd => pss_ex fun c' => hsu c' a oe cls d pn hz hd) fun D σ H ⟨ρ, env, ro, w, hS, hE, q⟩ => ?_
  refine ⟨ρ, env, ro, w, hS, hE, ?_⟩
  have hl : i < X.N.length := (List.getElem?_eq_some_iff.mp hi).1
  unfold sTryAE at q
  cases e : fb env ro w with
  | no => rw [e] at q; exact q
  | go fl env1 w1 =>
    rw [e] at q
    cases fl with
    | nx => exact fun σ1 ρ1 H1 x1 s1 e1 => ⟨ρ1, env1, ro, w1, s1, e1, AfterS.ext x1 q⟩
    | rt d => exact q
    | bk => exact q
    | ct => exact q
  | exn c' ns xs env1 w1 =>
    rw [e] at q
    cases ns with
    | cons _ _ => exact (show False from q).elim
    | nil =>
      cases xs with
      | cons _ _ => exact (show False from q).elim
      | nil =>
        intro cls dx σ1 ρ1 H1 x1 s1 e1 hX
        obtain ⟨A, h1, h2, h3⟩ := hX
        have h4 : dx = none := by
          rcases h3 with ⟨_, _, h⟩ | ⟨_, _, _, h, _⟩
          · exact h
          · exact absurd rfl h
        simp only at q
        cases e2 : sub c' with
        | none => rw [e2] at q; exact (show False from q).elim
        | some b =>
          rw [e2] at q
          have hx := hsub c' b e2 A h1
          rw [← h2] at hx
          refine ⟨b, hx, fun hb' a na => ?_, fun hb' => ?_⟩
          · subst hb'
            simp only at q
            by_cases hl2 : i < env1.length
            · rw [if_pos hl2] at q
              have hiσ : i < σ1.length := by
                rw [← e1.len]
                exact hl2
              refine ⟨c', ⟨by rw [List.getElem?_set_self hiσ], ⟨A, h1, h2⟩, h4⟩, ρ1, env1.set i none, ro, w1, s1, e1.setN i _, ?_⟩
              cases e3 : fs c' (env1.set i none) ro w1 with
              | no => rw [e3] at q; exact (show False from q).elim
              | exn _ _ _ _ _ => rw [e3] at q; exact (show False from q).elim
              | go fl env2 w2 =>
                rw [e3] at q
                have q' := AfterS.ext x1 q
                cases fl with
                | nx => exact fun σ2 ρ2 H2 x2 s2 e2 => q' _ ρ2 H2 x2 s2 (e2.setN i none)
                | bk => exact fun σ2 ρ2 H2 x2 s2 e2 => q' _ ρ2 H2 x2 s2 (e2.setN i none)
                | ct => exact fun σ2 ρ2 H2 x2 s2 e2 => q' _ ρ2 H2 x2 s2 (e2.setN i none)
                | rt d => exact q'
            · rw [if_neg hl2] at q
              exact (show False from q).elim
          · subst hb'
            simp only at q
            exact q cls dx σ1 ρ1 H1 x1 s1 e1 ⟨A, h1, h2, h3⟩
end
/-! ### isinstance(e, C) in the suite -/
section
variable {X : Cx} {i : Nat} {c' cn en : Str} {a : Addr} {oe : Obj} {cls : Value} {d : Option Addr} {pn : List (Addr × Obj)} {W : WX} {C : Cfg} {p q1 q2 pos : Pos} {b : Bool} {C2 : Addr}
theorem ptp_isE (EC : ∀ A, X.mg c' = some (.ref A) → ExcC X.K A ∧ PySem.W.kitOne X.K (.ref A) (.ref C2) = some b) (hz : Zc cls d oe) (hf : ∃ vs, oe.data = .fields vs) (hg : Gl (X.suite a ((a, oe) :: pn)) "isinstance") (hm : X.mg "isinstance" = none) (hgc : Gl (X.suite a ((a, oe) :: pn)) cn) (hmc : X.mg cn = some (.ref C2))
    (hN : X.N[i]? = some en := by rfl) (hv : Vis X.env.scope en := by first | exact Or.inl rfl | exact Or.inr (Or.inl rfl) | exact Or.inr (Or.inr rfl)) (hd : (en == ("__debug__" : Str)) = false := by decide) (hcd : (en == ("__classdict__" : Str)) = false := by decide) (hdc : (cn == ("__debug__" : Str)) = false := by decide)
    (hs1 : starEach [.Name en q1, .Name cn q2] X.env = (false, eval (.Name en q1) X.env) :: starEach [.Name cn q2] X.env := by rfl) (hs2 : starEach [.Name cn q2] X.env = (false, eval (.Name cn q2) X.env) :: starEach [] X.env := by rfl) (hpl : (backTo pos (starEach [.Name cn q2] X.env)).any (·.1) = false := by rfl)
    (he : ∀ whole, isTrue (.Call (.Name "isinstance" p) [.Name en q1, .Name cn q2] [] pos) X.env whole = (do let v ← whole; standAt pos; holding [v] (truthy v)) := by intro _; rfl) :
    PT (X.suite a ((a, oe) :: pn)) (.Call (.Name "isinstance" p) [.Name en q1, .Name cn q2] [] pos) (tTp (Pc X i c' a cls d) (tT C W (cKT b))) := by
  refine ⟨fun pins s σ H Q I ⟨⟨hσ, ⟨A, hA, hcl⟩, hdn⟩, ρ, env, ro, w, hS, hE, q⟩ => ?_⟩
  subst hcl hdn
  obtain ⟨ec, kit⟩ := EC A hA
  have pe := pe_callB (pos := pos) (p := p) (call_isE (a := a) (pn := pn) ec hz hf) hg hm PyProof.Rows.boot_isinstance (pa_cons (pe_var (X := X.suite a ((a, oe) :: pn)) (pos := q1) hN hv hd hcd) (pa_cons (pe_glob (X := X.suite a ((a, oe) :: pn)) (pos := q2) (v := .ref C2) hgc hmc rfl hdc) pa_nil hs2) hs1) (by decide) (by decide) hs1 hpl
  refine (pt_truth pe he).run pins s σ H Q I ?_
  refine ⟨.ref a, hσ, .ref C2, .ref C2, b, rfl, fun u hu => hu, kit, b, rfl, ?_⟩
  exact q b ρ H .refl hS rfl
end
/-! ### a law's exceptions: cs may be raised, us are named in clauses and tests -/
structure ExT (K : PySem.W.Frag) (mg : Str → Option Value) (cs us : List Str) (sub : Str → Str → Bool) : Prop where
  ad : ∀ c ∈ cs, ExC K mg c ∧ ∀ A, mg c = some (.ref A) → ExcC K A
  na : ∀ c ∈ us, ∃ A, mg c = some (.ref A)
  pr : ∀ c ∈ cs, ∀ u ∈ us, ∀ A B, mg c = some (.ref A) → mg u = some (.ref B) → PySem.W.exmOne K (.ref A) (.ref B) = some (sub c u) ∧ PySem.W.kitOne K (.ref A) (.ref B) = some (sub c u)
def subO (cs : List Str) (sub : Str → Str → Bool) (u : Str) : Str → Option Bool := fun c => if c ∈ cs then some (sub c u) else none
section
variable {K : PySem.W.Frag} {mg : Str → Option Value} {cs us : List Str} {sub : Str → Str → Bool} {u : Str}
theorem ExT.sub' (T : ExT K mg cs us sub) (hu : u ∈ us) {B : Addr} (hB : mg u = some (.ref B)) : ∀ c' b, subO cs sub u c' = some b → ∀ A, mg c' = some (.ref A) → PySem.W.exmOne K (.ref A) (.ref B) = some b := by
  intro c' b h A hA
  unfold subO at h
  by_cases hc : c' ∈ cs
  · rw [if_pos hc] at h
    cases h
    exact (T.pr c' hc u hu A B hA hB).1
  · rw [if_neg hc] at h
    cases h
end
section
variable {X : Cx} {W : WX} {x n : Str} {i : Nat} {body suite orelse : List Stmt} {b₀ : Stmt} {np pos pos' : Pos} {fb fe : SF} {fs : Str → SF} {cs us : List Str} {sub : Str → Str → Bool}
/-- by the law's table -/
theorem f_tryT (i : Nat) (T : ExT X.K X.mg cs us sub) (hx : x ∈ us) (hg : Gl X x) (hdb : (x == ("__debug__" : Str)) = false) (ho : PSs X orelse (tS (cfg X) W fe)) (hs : X.stack = X.env :: X.outer) (hf : X.env.frame = some X.env.locals) (hN : X.N.Nodup) (hi : X.N[i]? = some n) (hln : X.env.kindOf n = some .local) (tk : Takes X W)
    (hb : ∀ (W : WX) (pn : List (Addr × Obj)) (xe : Value → Shared → Prop), Takes (X.tr pn xe) W → PassesOwn (model X.prog X.w) X.A X.env xe → PSs (X.tr pn xe) body (tS (cfg X) W fb))
    (hsu : ∀ (c' : Str) (a : Addr) (oe : Obj) (cls : Value) (d : Option Addr) (pn : List (Addr × Obj)), c' ∈ cs → Zc cls d oe → (∃ vs, oe.data = .fields vs) → PSs (X.suite a ((a, oe) :: pn)) (b₀ :: suite) (tSp (Pc X i c' a cls d) (tS (cfg X) W0 (fs c')))) :
    PS X (.Try body [.ExceptHandler (some (.Name x np)) (some n) (b₀ :: suite) pos'] orelse [] pos) (tS (cfg X) W (sTryAE i (subO cs sub x) fb (fun c => if c ∈ cs then fs c else fun _ _ _ => .no) fe)) := by
  obtain ⟨B, hB⟩ := T.na x hx
  refine f_tryAE i (T.sub' hx hB) ho hs hf hN hi hln ⟨hg, hdb, .inl hB⟩ tk hb fun c' a oe cls d pn hz hd => ?_
  by_cases hc : c' ∈ cs
  · rw [if_pos hc]
    exact hsu c' a oe cls d pn hc hz hd
  · rw [if_neg hc]
    exact pss_imp (t := fun _ _ _ => False) ⟨fun _ _ _ _ _ _ h => h.elim⟩ fun D σ H ⟨_, _, _, _, _, _, _, q⟩ => q
/-- isinstance(e, u) by the table -/
theorem ptp_isT {c' cn en : Str} {a : Addr} {oe : Obj} {cls : Value} {d : Option Addr} {pn : List (Addr × Obj)} {C : Cfg} {p q1 q2 : Pos} (T : ExT X.K X.mg cs us sub) (hc : c' ∈ cs) (hu : cn ∈ us) (hz : Zc cls d oe) (hf : ∃ vs, oe.data = .fields vs) (hg : Gl (X.suite a ((a, oe) :: pn)) "isinstance") (hm : X.mg "isinstance" = none) (hgc : Gl (X.suite a ((a, oe) :: pn)) cn)
    (hN : X.N[i]? = some en := by rfl) (hv : Vis X.env.scope en := by first | exact Or.inl rfl | exact Or.inr (Or.inl rfl) | exact Or.inr (Or.inr rfl)) (hd : (en == ("__debug__" : Str)) = false := by decide) (hcd : (en == ("__classdict__" : Str)) = false := by decide) (hdc : (cn == ("__debug__" : Str)) = false := by decide)
    (hs1 : starEach [.Name en q1, .Name cn q2] X.env = (false, eval (.Name en q1) X.env) :: starEach [.Name cn q2] X.env := by rfl) (hs2 : starEach [.Name cn q2] X.env = (false, eval (.Name cn q2) X.env) :: starEach [] X.env := by rfl) (hpl : (backTo pos (starEach [.Name cn q2] X.env)).any (·.1) = false := by rfl)
    (he : ∀ whole, isTrue (.Call (.Name "isinstance" p) [.Name en q1, .Name cn q2] [] pos) X.env whole = (do let v ← whole; standAt pos; holding [v] (truthy v)) := by intro _; rfl) :
    PT (X.suite a ((a, oe) :: pn)) (.Call (.Name "isinstance" p) [.Name en q1, .Name cn q2] [] pos) (tTp (Pc X i c' a cls d) (tT C W (cKT (sub c' cn)))) := by
  obtain ⟨C2, h2⟩ := T.na cn hu
  exact ptp_isE (fun A hA => ⟨(T.ad c' hc).2 A hA, (T.pr c' hc cn hu A C2 hA h2).2⟩) hz hf hg hm hgc h2 hN hv hd hcd hdc hs1 hs2 hpl he
end
theorem exm_both {K : PySem.W.Frag} {A C : Addr} {b b' : Bool} (h1 : PySem.W.subIn K (.ref C) (.type "BaseException") = some true) (hd : PySem.W.hasDictIn K C = true) (ht : PySem.W.typeIn K (.ref C) = some (.type "type")) (h4 : PySem.W.subIn K (.ref A) (.ref C) = some b) (he : (Value.ref A == Value.ref C) = b') (hb : b' = true → b = true) : PySem.W.exmOne K (.ref A) (.ref C) = some b ∧ PySem.W.kitOne K (.ref A) (.ref C) = some b := by
  have e := PySem.W.exm_ref h1 hd ht h4
  refine ⟨e, ?_⟩
  unfold PySem.W.kitOne
  rw [he]
  cases b' with
  | true => rw [if_pos rfl, hb rfl]
  | false =>
    rw [if_neg (by decide)]
    unfold PySem.W.exmOne at e
    rw [h1] at e
    exact e
end Fx
/-! dict == dict; for k in d. -/
namespace Fx
open PySem PySem.Spec L2
def eqDP : List D → List D → List D → List D → Bool
  | k :: ks, x :: xs, ls, ys => (match dget ls ys k with
    | some y => PyData.eqv x.py y.py
    | none => false) && eqDP ks xs ls ys
  | _, _, _, _ => true
def eqDic (ks xs ls ys : List D) : Bool := decide (ks.length = ls.length) && eqDP ks xs ls ys
/-- the values of two dicts compared, key by key -/
inductive HitsV (K : PySem.W.Frag) (H : Hp) (lvs : List (Key × V)) : List (Key × V) → Bool → Prop
  | nil : HitsV K H lvs [] true
  | miss {k : Key} {v : V} {r : List (Key × V)} : valV lvs k = none → HitsV K H lvs ((k, v) :: r) false
  | hit {k : Key} {v y : V} {d e : PyData} {r : List (Key × V)} {b : Bool} : valV lvs k = some y → Dp K H v d → Dp K H y e → SeqAt.shaped d = true → SeqAt.shaped e = true → HitsV K H lvs r b → HitsV K H lvs ((k, v) :: r) (PyData.eqv d e && b)
section
variable {X : Cx} {pins : List (Addr × Obj)} {σ : L2.St} {H : Hp} {s : Shared}
theorem HitsV.hits (I : Inv X pins σ H s) {A : Around} (hu : A.in1.units + 64 < cLine) {lvs kvs : List (Key × V)} {vb : List (Key × Value)} (rb : KV lvs vb) {b : Bool} (h : HitsV X.K H lvs kvs b) :
    ∀ {va : List (Key × Value)}, KV kvs va → PySem.W.KeqHits A.in1 s vb va b := by
  induction h with
  | nil =>
    intro va ra
    unfold KV at ra
    cases ra
    exact .nil
  | @miss k v r hn =>
    intro va ra
    unfold KV at ra
    cases ra with
    | @cons p q ps qs h t =>
      obtain ⟨h1, h2⟩ := h
      obtain ⟨k', u⟩ := q
      cases (show k = k' from h1)
      have z := rb.val k
      rw [hn] at z
      refine .miss ?_
      cases e : valueAt vb k with
      | none => rfl
      | some w => rw [e] at z; exact (show False from z).elim
  | @hit k v y d e r b hv hd he sd se _ ih =>
    intro va ra
    unfold KV at ra
    cases ra with
    | @cons p q ps qs h t =>
      obtain ⟨h1, h2⟩ := h
      obtain ⟨k', u⟩ := q
      cases (show k = k' from h1)
      have z := rb.val k
      rw [hv] at z
      obtain ⟨y', hy, ry⟩ := z.some_of
      obtain ⟨as, r1⟩ := Dp.reads I d _ _ hd h2
      obtain ⟨bs, r2⟩ := Dp.reads I e _ _ he ry
      exact .hit hy (PySem.W.keq_at r1 r2 sd se hu) (ih t)
def rEqDicR (K : PySem.W.Frag) (neg : Bool) : R2 := fun x y H Q => ∃ a b kvs lvs r, x = .ref a ∧ y = .ref b ∧ Rd H a (.dK kvs) ∧ Rd H b (.dK lvs) ∧ HitsV K H lvs kvs r ∧
  Q (.bl (if neg = true then !(decide (kvs.length = lvs.length) && r) else decide (kvs.length = lvs.length) && r)) H
theorem op_eqDic (hu : X.A.units + 65 < cLine) : OpR X (compareOp .Eq) (rEqDicR X.K false) := by
  intro pins s σ H x y v u Q I rx ry h
  obtain ⟨a, b, kvs, lvs, r, rfl, rfl, ha, hb, hh, q⟩ := h
  cases (show v = Value.ref a from rx)
  cases (show u = Value.ref b from ry)
  obtain ⟨_, ya, va, ra, da⟩ := dk_rd I.hok ha
  obtain ⟨_, yb, vb, rb, db⟩ := dk_rd I.hok hb
  refine PySem.W.keq_eq (knd := mixKind X.prog X.w) ya yb da db (by omega) (fun _ => HitsV.hits I (by show X.A.units + 1 + 64 < cLine; omega) rb hh ra) ?_
  have e : (va.length == vb.length && r) = (decide (kvs.length = lvs.length) && r) := by
    rw [← Paired.length ra, ← Paired.length rb, Bool.beq_eq_decide_eq]
  rw [e]
  exact ⟨.bl _, H, I, rfl, q⟩
theorem op_neDic (hu : X.A.units + 65 < cLine) : OpR X (compareOp .NotEq) (rEqDicR X.K true) := by
  intro pins s σ H x y v u Q I rx ry h
  obtain ⟨a, b, kvs, lvs, r, rfl, rfl, ha, hb, hh, q⟩ := h
  cases (show v = Value.ref a from rx)
  cases (show u = Value.ref b from ry)
  obtain ⟨_, ya, va, ra, da⟩ := dk_rd I.hok ha
  obtain ⟨_, yb, vb, rb, db⟩ := dk_rd I.hok hb
  refine PySem.W.keq_ne (knd := mixKind X.prog X.w) ya yb da db (by omega) (fun _ => HitsV.hits I (by show X.A.units + 1 + 64 < cLine; omega) rb hh ra) ?_
  have e : (va.length == vb.length && r) = (decide (kvs.length = lvs.length) && r) := by
    rw [← Paired.length ra, ← Paired.length rb, Bool.beq_eq_decide_eq]
  rw [e]
  exact ⟨.bl _, H, I, rfl, q⟩
theorem opf_eqDic (hu : X.A.units + 65 < cLine) : OpR X (compareOp .Eq) (fun x y H Q => rEqD X.K x y H Q ∨ rEqDicR X.K false x y H Q) := (op_eqD (by omega)).or (op_eqDic hu)
theorem opf_neDic (hu : X.A.units + 65 < cLine) : OpR X (compareOp .NotEq) (fun x y H Q => rNeD X.K x y H Q ∨ rEqDicR X.K true x y H Q) := (op_neD (by omega)).or (op_neDic hu)
end
def gEqDc (neg : Bool) (x y : D) : M D := match x, y with
  | .dic ks xs, .dic ls ys => fun _ w => if (xs.all D.cmp && ys.all D.cmp) = true then .ok (.bl (if neg = true then !eqDic ks xs ls ys else eqDic ks xs ls ys)) w else .no
  | x, y => if neg = true then gNe x y else gEq x y
section
variable {C : Cfg} {ρ : Zn} {H : Hp}
theorem dget_mem {k y : D} : ∀ {ls ys : List D}, dget ls ys k = some y → y ∈ ys
  | [], _, h => by simp [dget] at h
  | _ :: _, [], h => by simp [dget] at h
  | l :: ls, z :: ys, h => by
    unfold dget at h
    split at h
    · cases h
      exact List.mem_cons_self
    · exact List.mem_cons_of_mem _ (dget_mem h)
theorem hits_rep {lvs : List (Key × V)} {ls ys : List D} (l1 : ls.map keyOf = lvs.map (fun p => some p.1)) (l2 : Reps C ρ H ys (lvs.map (·.2))) (lc : ys.all D.cmp = true) :
    ∀ {kvs : List (Key × V)} {ks xs : List D}, ks.map keyOf = kvs.map (fun p => some p.1) → Reps C ρ H xs (kvs.map (·.2)) → xs.all D.cmp = true → HitsV C.K H lvs kvs (eqDP ks xs ls ys)
  | [], ks, xs, h1, h2, _ => by
    have e1 : ks = [] := by simpa using h1
    subst e1
    exact .nil
  | p :: kvs, ks, xs, h1, h2, hc => by
    cases ks with
    | nil => simp at h1
    | cons q ks =>
      cases xs with
      | nil => simp [Reps] at h2
      | cons x xs =>
        obtain ⟨v, r, e, g1, g2⟩ := h2
        obtain ⟨κ, u⟩ := p
        simp only [List.map_cons, List.cons.injEq] at e h1
        obtain ⟨e1, e2⟩ := e
        subst e1 e2
        rw [List.all_cons, Bool.and_eq_true] at hc
        have ih := hits_rep l1 l2 lc (kvs := kvs) (ks := ks) (xs := xs) h1.2 g2 hc.2
        have z := dget_rep h1.1 l1 l2
        unfold eqDP
        cases ed : dget ls ys q with
        | none => exact .miss (z.2 ed)
        | some y =>
          obtain ⟨w, k1, k2⟩ := z.1 y ed
          have cy : y.cmp = true := List.all_eq_true.mp lc y (dget_mem ed)
          obtain ⟨f1, s1⟩ := Bool.and_eq_true_iff.mp hc.1
          obtain ⟨f2, s2⟩ := Bool.and_eq_true_iff.mp cy
          exact .hit k1 (Rep.dp _ f1 g1) (Rep.dp _ f2 k2) s1 s2 ih
theorem map_len {α β : Type} {ks : List D} {f : D → α} {kvs : List β} {g : β → α} (h : ks.map f = kvs.map g) : ks.length = kvs.length := by
  have := congrArg List.length h
  simpa using this
theorem ok2_eqDc : Ok2 C (fun x y H Q => rEqD C.K x y H Q ∨ rEqDicR C.K false x y H Q) (gEqDc false) := by
  intro W σ ρ H ro w d e x y Q hS hd he q
  by_cases hb : ∃ ks xs ls ys, d = .dic ks xs ∧ e = .dic ls ys
  · obtain ⟨ks, xs, ls, ys, rfl, rfl⟩ := hb
    obtain ⟨a, kvs, rfl, h1, h2, h3⟩ := hd.dic
    obtain ⟨b, lvs, rfl, g1, g2, g3⟩ := he.dic
    unfold gEqDc at q
    by_cases c : (xs.all D.cmp && ys.all D.cmp) = true
    · simp only [if_pos c] at q
      obtain ⟨c1, c2⟩ := Bool.and_eq_true_iff.mp c
      refine .inr ⟨a, b, kvs, lvs, _, rfl, rfl, h1, g1, hits_rep g2 g3 c2 h2 h3 c1, ?_⟩
      have e : eqDic ks xs ls ys = (decide (kvs.length = lvs.length) && eqDP ks xs ls ys) := by
        unfold eqDic
        rw [map_len h2, map_len g2]
      rw [e] at q
      exact ok_bl hS q
    · simp only [if_neg c] at q
      exact (show False from q).elim
  · have e1 : gEqDc false d e = gEq d e := by
      unfold gEqDc
      split
      · exact absurd ⟨_, _, _, _, rfl, rfl⟩ hb
      · rfl
    rw [e1] at q
    exact .inl (ok2_eq W σ ρ H ro w d e x y Q hS hd he q)
theorem ok2_neDc : Ok2 C (fun x y H Q => rNeD C.K x y H Q ∨ rEqDicR C.K true x y H Q) (gEqDc true) := by
  intro W σ ρ H ro w d e x y Q hS hd he q
  by_cases hb : ∃ ks xs ls ys, d = .dic ks xs ∧ e = .dic ls ys
  · obtain ⟨ks, xs, ls, ys, rfl, rfl⟩ := hb
    obtain ⟨a, kvs, rfl, h1, h2, h3⟩ := hd.dic
    obtain ⟨b, lvs, rfl, g1, g2, g3⟩ := he.dic
    unfold gEqDc at q
    by_cases c : (xs.all D.cmp && ys.all D.cmp) = true
    · simp only [if_pos c] at q
      obtain ⟨c1, c2⟩ := Bool.and_eq_true_iff.mp c
      refine .inr ⟨a, b, kvs, lvs, _, rfl, rfl, h1, g1, hits_rep g2 g3 c2 h2 h3 c1, ?_⟩
      have e : eqDic ks xs ls ys = (decide (kvs.length = lvs.length) && eqDP ks xs ls ys) := by
        unfold eqDic
        rw [map_len h2, map_len g2]
      rw [e] at q
      exact ok_bl hS q
    · simp only [if_neg c] at q
      exact (show False from q).elim
  · have e1 : gEqDc true d e = gNe d e := by
      unfold gEqDc
      split
      · exact absurd ⟨_, _, _, _, rfl, rfl⟩ hb
      · rfl
    rw [e1] at q
    exact .inl (ok2_ne W σ ρ H ro w d e x y Q hS hd he q)
end
section
variable {ro w : List D}
theorem x_eqDc {b : Bool} {ks xs ls ys : List D} (h : xs.all D.cmp = true) (h' : ys.all D.cmp = true) : gEqDc b (.dic ks xs) (.dic ls ys) ro w = .ok (.bl (if b = true then !eqDic ks xs ls ys else eqDic ks xs ls ys)) w := by
  unfold gEqDc
  simp [h, h']
end

/-! ### a heap in which a dict is locked -/
structure Rde (H H' : Hp) : Prop where
  rd : ∀ a u, (∀ o u', u ≠ .frz o u') → Rd H a u → Rd H' a u
  ins : ∀ a A dx fs, H a = some (.ins A dx fs) → H' a = some (.ins A dx fs)
  there : ∀ a o, H a = some o → ∃ o', H' a = some o'
section
variable {C : Cfg} {ρ : Zn} {H H' : Hp}
theorem Rde.still {a : Addr} {u : HO} (x : Rde H H') (hu : ∀ o u', u ≠ .frz o u') (h : Still ρ H a u) : Still ρ H' a u := ⟨h.1, x.rd a u hu h.2⟩
mutual
theorem Rep.rde (x : Rde H H') : ∀ (d : D) {v : V}, Rep C ρ H d v → Rep C ρ H' d v
  | .non, v, h => h
  | .bl b, v, h => h
  | .int i, v, h => h
  | .str i, v, h => h
  | .fn i, v, h => h
  | .ref n, v, h => h
  | .tup ds, v, ⟨a, vs, e, h, r⟩ => ⟨a, vs, e, h.imp (x.still fun _ _ z => nomatch z) id, Reps.rde x ds r⟩
  | .lst ds, v, ⟨a, vs, e, h, r⟩ => ⟨a, vs, e, h.imp (x.still fun _ _ z => nomatch z) id, Reps.rde x ds r⟩
  | .dic ks ds, v, ⟨a, kvs, e, h, k, r⟩ => ⟨a, kvs, e, x.still (fun _ _ z => nomatch z) h, k, Reps.rde x ds r⟩
  | .dct ks ds, v, ⟨a, es, ep, as, vs, e, h, en, nd, rk, r⟩ => ⟨a, es, ep, as, vs, e, x.still (fun _ _ z => by unfold DNo at z; cases z) h, en, nd, Reps.rde x ks rk, Reps.rde x ds r⟩
  | .ins c ns ds, v, ⟨a, A, dx, fs, e, m, n, h, k, r⟩ => ⟨a, A, dx, fs, e, m, n, x.ins _ _ _ _ h, k, Reps.rde x ds r⟩
theorem Reps.rde (x : Rde H H') : ∀ (ds : List D) {vs : List V}, Reps C ρ H ds vs → Reps C ρ H' ds vs
  | [], vs, h => h
  | d :: ds, vs, ⟨v, r, e, h1, h2⟩ => ⟨v, r, e, Rep.rde x d h1, Reps.rde x ds h2⟩
end
theorem RepE.rde {env : Env} {σ : L2.St} (x : Rde H H') (h : RepE C ρ H env σ) : RepE C ρ H' env σ := ⟨h.len, fun i d e => by
  obtain ⟨v, h1, h2⟩ := h.at' i d e
  exact ⟨v, h1, Rep.rde x d h2⟩⟩
theorem RepS.rde {w : List D} (x : Rde H H') (e : ∀ a ∈ ρ.r, H' a = H a) (hS : RepS C ρ H w) : RepS C ρ H' w := by
  refine ⟨hS.len, hS.nd, fun i a d h1 h2 => ?_, fun a ha => ⟨(hS.hid a ha).1, by obtain ⟨o, z⟩ := (hS.hid a ha).2; exact x.there a o z⟩⟩
  have ea := e a (List.mem_of_getElem? h1)
  have q := hS.obj i a d h1 h2
  cases d with
  | lst ds => obtain ⟨vs, e, r⟩ := q; exact ⟨vs, ea.trans e, Reps.rde x ds r⟩
  | dic ks ds => obtain ⟨vs, e, k, r⟩ := q; exact ⟨vs, ea.trans e, k, Reps.rde x ds r⟩
  | dct ks ds => obtain ⟨es, ep, as, vs, e, en, nd, rk, r⟩ := q; exact ⟨es, ep, as, vs, ea.trans e, en, nd, Reps.rde x ks rk, Reps.rde x ds r⟩
  | ins c ns ds => obtain ⟨A, dx, fs, m, e, k, r⟩ := q; exact ⟨A, dx, fs, m, ea.trans e, k, Reps.rde x ds r⟩
  | _ => exact (show False from q).elim
theorem rde_lock {a : Addr} {od : Obj} {kvs : List (Key × V)} (e : H a = some (.dK kvs)) : Rde H (upd H a (.frz od (.dK kvs))) where
  rd := fun b u hu h => by
    by_cases c : b = a
    · subst c
      rcases h with h | ⟨o, h⟩
      · rw [e] at h
        cases h
        exact .inr ⟨od, upd_same⟩
      · rw [e] at h
        cases h
    · rcases h with h | ⟨o, h⟩
      · exact .inl (by rw [upd_ne c]; exact h)
      · exact .inr ⟨o, by rw [upd_ne c]; exact h⟩
  ins := fun b A dx fs h => by rw [upd_ne (fun z => by rw [z, e] at h; cases h)]; exact h
  there := fun b o h => by
    by_cases c : b = a
    · subst c
      exact ⟨_, upd_same⟩
    · exact ⟨o, by rw [upd_ne c]; exact h⟩
theorem rde_unlock {a : Addr} {od : Obj} {kvs : List (Key × V)} (e : H a = some (.frz od (.dK kvs))) : Rde H (upd H a (.dK kvs)) where
  rd := fun b u hu h => by
    by_cases c : b = a
    · subst c
      rcases h with h | ⟨o, h⟩
      · rw [e] at h
        cases h
        exact absurd rfl (hu _ _)
      · rw [e] at h
        cases h
        exact .inl upd_same
    · rcases h with h | ⟨o, h⟩
      · exact .inl (by rw [upd_ne c]; exact h)
      · exact .inr ⟨o, by rw [upd_ne c]; exact h⟩
  ins := fun b A dx fs h => by rw [upd_ne (fun z => by rw [z, e] at h; cases h)]; exact h
  there := fun b o h => by
    by_cases c : b = a
    · subst c
      exact ⟨_, upd_same⟩
    · exact ⟨o, by rw [upd_ne c]; exact h⟩
/-- what has been done while a dict was locked -/
theorem ext_locked {ρ' : Zn} {a : Addr} {od : Obj} {kvs : List (Key × V)} (e : H a = some (.dK kvs)) (o : ρ.Out a) (x : Ext ρ ρ' (upd H a (.frz od (.dK kvs))) H') : H' a = some (.frz od (.dK kvs)) ∧ ρ'.Out a ∧ Ext ρ ρ' H (upd H' a (.dK kvs)) := by
  have k := x.keep a _ upd_same o
  refine ⟨k.1, k.2, x.pre, x.hid, fun b u h n => ?_, fun b hb => ?_⟩
  · by_cases c : b = a
    · subst c
      rw [e] at h
      cases h
      exact ⟨upd_same, k.2⟩
    · have z := x.keep b u (by rw [upd_ne c]; exact h) n
      exact ⟨by rw [upd_ne c]; exact z.1, z.2⟩
  · have c : b ≠ a := fun z => o.2 (z ▸ hb)
    rw [upd_ne c, x.same b hb, upd_ne c]
theorem reps_unlock {w : List D} {a : Addr} {od : Obj} {kvs : List (Key × V)} (e : H a = some (.frz od (.dK kvs))) (o : ρ.Out a) (hS : RepS C ρ H w) : RepS C ρ (upd H a (.dK kvs)) w :=
  hS.rde (rde_unlock e) fun b hb => upd_ne fun z => o.1 (z ▸ hb)
theorem reps_lock {w : List D} {a : Addr} {od : Obj} {kvs : List (Key × V)} (e : H a = some (.dK kvs)) (o : ρ.Out a) (hS : RepS C ρ H w) : RepS C ρ (upd H a (.frz od (.dK kvs))) w :=
  hS.rde (rde_lock e) fun b hb => upd_ne fun z => o.1 (z ▸ hb)
end

/-! ### the keys -/
def cKeys (i : Nat) : Env → M (List D) := fun env _ w => match env[i]? with
  | some (some (.dic ks _)) => .ok ks w
  | _ => .no
def Frz (i : Nat) (σ : L2.St) (H : Hp) : Prop := ∃ a o kvs, σ[i]? = some (some (.ref a)) ∧ H a = some (.frz o (.dK kvs))
theorem rep_key {C : Cfg} {ρ : Zn} {H : Hp} {k : D} {κ : Key} (h : keyOf k = some κ) : Rep C ρ H k (kV κ) := by
  cases k with
  | int i => cases h; rfl
  | str i => cases h; rfl
  | _ => cases h
theorem walks_keys {C : Cfg} {ρ : Zn} {H : Hp} {ks : List D} {a : Addr} {o : Obj} {kvs : List (Key × V)} (n : ρ.Out a) (e : H a = some (.frz o (.dK kvs))) (h : ks.map keyOf = kvs.map (fun p => some p.1)) : Walks C ρ H ks (Itk a o kvs) := by
  intro i ρ' H' u x s
  have h' := (x.keep _ _ e n).1
  have hl := map_len h
  refine ⟨fun d e => ⟨⟨h', by rw [← hl]; exact (List.getElem?_eq_some_iff.mp e).1⟩, fun z H2 ⟨e2, k, v, g1, g2⟩ => ?_⟩, fun e => ⟨h', by rw [← hl]; exact List.getElem?_eq_none_iff.mp e⟩⟩
  subst e2
  have q := congrArg (·[i]?) h
  simp only [List.getElem?_map, e, g1, Option.map_some, Option.some.injEq] at q
  rw [g2]
  exact ⟨.refl, s, rep_key q⟩
section
variable {X : Cx} {W : WX} {pos p pos' : Pos} {elt tg iter : Expr} {ifs : List Expr} {scope : Scope} {own : List (Str × Nat)} {tt : Env → M Bool} {f : EF} {t : Tg} {x : Str} {σ : L2.St} {H : Hp} {ρ : Zn}
theorem pi_keysF (i : Nat) (hN : X.N[i]? = some x := by rfl) (hv : Vis X.env.scope x := by first | exact Or.inl rfl | exact Or.inr (Or.inl rfl) | exact Or.inr (Or.inr rfl)) (hd : (x == ("__debug__" : Str)) = false := by decide) (hcd : (x == ("__classdict__" : Str)) = false := by decide) :
    PI X tg (.Name x p) (fun σ H R => Frz i σ H ∧ tI (cfg X) W (cKeys i) σ H R) :=
  pi_imp (pi_keys (pe_var hN hv hd hcd)) fun σ H R ⟨⟨a, o, kvs, e1, e2⟩, ρ, env, ro, w, hS, hE, q⟩ => by
    cases ee : env[i]? with
    | none =>
      unfold cKeys at q
      simp only [ee] at q
      exact (show False from q).elim
    | some od =>
      cases od with
      | none =>
        unfold cKeys at q
        simp only [ee] at q
        exact (show False from q).elim
      | some d =>
        cases d with
        | dic ks xs =>
          unfold cKeys at q
          simp only [ee] at q
          obtain ⟨v, h1, a', kvs', e3, st, k1, k2⟩ := hE.at' i _ ee
          rw [e1] at h1
          cases h1
          cases e3
          have ek : kvs' = kvs := by
            rcases st.2 with h | ⟨o', h⟩
            · rw [e2] at h
              cases h
            · rw [e2] at h
              cases h
              rfl
          subst ek
          exact ⟨.ref a, e1, a, o, rfl, .inl ⟨kvs', e2, q _ ρ H .refl hS (walks_keys st.1 e2 k1)⟩⟩
        | _ =>
          unfold cKeys at q
          simp only [ee] at q
          exact (show False from q).elim
theorem keys_there {i : Nat} {env : Env} {ro w : List D} {ds w' : List D} (h : cKeys i env ro w = .ok ds w') : ∃ xs, env[i]? = some (some (.dic ds xs)) ∧ w' = w := by
  unfold cKeys at h
  split at h
  · rename_i ks xs e
    cases h
    exact ⟨xs, e, rfl⟩
  · cases h
/-- a comprehension over the keys of a dict that stands still -/
def cCompD (t : Tg) (own : List Nat) (i : Nat) (tt : Env → M Bool) (f : EF) (k : List D → M D) : EF := fun env => M.calm (cComp t own (cKeys i) tt f k env)
theorem pf_lcD {k : List D → M D} (i : Nat) (hk : KOk (cfg X) k) (ht : ∀ i ∈ t.slots, i ∈ own.map (·.2)) (hc : X.calm = true) (hN : X.N.Nodup) (ok : BlkOk X.N X.env.scope scope own)
    (hg : ∀ (s : Shared) (H : Hp) (C : Addr) (cl : List (Str × Addr)) (fp : List Addr), PG (X.blk s H scope (compEnvC scope cl C X.env) fp) tg (t.g X.K)) (hq : ∀ (s : Shared) (H : Hp) (C : Addr) (cl : List (Str × Addr)) (fp : List Addr), PTs (X.blk s H scope (compEnvC scope cl C X.env) fp) ifs (tT (cfg X) W0 tt))
    (he : ∀ (s : Shared) (H : Hp) (C : Addr) (cl : List (Str × Addr)) (fp : List Addr), PE (X.blk s H scope (compEnvC scope cl C X.env) fp) elt (tE (cfg X) W0 f))
    (hi : X.N[i]? = some x := by rfl) (hv : Vis X.env.scope x := by first | exact Or.inl rfl | exact Or.inr (Or.inl rfl) | exact Or.inr (Or.inr rfl)) (hd : (x == ("__debug__" : Str)) = false := by decide) (hcd : (x == ("__classdict__" : Str)) = false := by decide) (hs : ∀ z, foldedSetIterable (.Name x p) X.env z = pure z := by intro _; rfl) :
    PE X (.ListComp elt [⟨tg, .Name x p, ifs, 0⟩] scope pos) (tE (cfg X) W (cCompD t (own.map (·.2)) i tt f k)) := by
  have base : PE X (.ListComp elt [⟨tg, .Name x p, ifs, 0⟩] scope pos) (fun σ H Q => Frz i σ H ∧ tE (cfg X) W (cComp t (own.map (·.2)) (cKeys i) tt f k) σ H Q) :=
    pe_imp (pe_lc hc hN (pi_keysF (W := W) i hi hv hd hcd) ok hg hq he hs) fun σ H Q ⟨p, q⟩ => ⟨p, tE_comp hk ht q⟩
  refine ⟨fun pins s σ H Q I q => ?_⟩
  obtain ⟨ρ, env, ro, w, hS, hE, q⟩ := q
  rcases calm_never (m := cComp t (own.map (·.2)) (cKeys i) tt f k env) (ro := ro) (w := w) rfl with ⟨d, w', e⟩ | e
  · replace q : AfterR (cfg X) (Rep (cfg X)) W σ ρ H ro (M.calm (cComp t (own.map (·.2)) (cKeys i) tt f k env) ro w) Q := q
    rw [e] at q
    have ec := calm_ok e
    obtain ⟨ds, w1, h1, h2⟩ := bind_ok ec
    obtain ⟨ds', w2, h3, h4⟩ := bind_ok h1
    obtain ⟨xs, ei, _⟩ := keys_there h3
    obtain ⟨v, g1, a, kvs, ev, st, k1, k2⟩ := hE.at' i _ ei
    subst ev
    rcases st.2 with h | ⟨o, h⟩
    · refine (pe_lock base).run pins s σ H Q I ⟨a, .dK kvs, h, trivial, fun od => ⟨⟨a, od, kvs, g1, upd_same⟩, ρ, env, ro, w, reps_lock h st.1 hS, hE.rde (rde_lock h), ?_⟩⟩
      rw [ec]
      intro v ρ' H' x s' r
      obtain ⟨l1, l2, l3⟩ := ext_locked h st.1 x
      exact ⟨l1, q v ρ' _ l3 (reps_unlock l1 l2 s') (Rep.rde (rde_unlock l1) _ r)⟩
    · exact base.run pins s σ H Q I ⟨⟨a, o, kvs, g1, h⟩, ρ, env, ro, w, hS, hE, by rw [ec]; exact q⟩
  · replace q : AfterR (cfg X) (Rep (cfg X)) W σ ρ H ro (M.calm (cComp t (own.map (·.2)) (cKeys i) tt f k env) ro w) Q := q
    rw [e] at q
    exact (show False from q).elim
/-- for k in d -/
def OS.calm : OS → OS
  | .go fl env w => .go fl env w
  | _ => .no
def sForD (t : Tg) (i : Nat) (body : SF) : SF := fun env ro w => (sFor t (cKeys i) body env ro w).calm
theorem f_forD {body : SF} {sts : List Stmt} (i : Nat) (hp : PassesOwn (model X.prog X.w) X.A X.env X.xe) (hc : X.calm = true) (hg : PG X tg (t.g X.K)) (hb : PSs X sts (tS (cfg X) W body))
    (hi : X.N[i]? = some x := by rfl) (hv : Vis X.env.scope x := by first | exact Or.inl rfl | exact Or.inr (Or.inl rfl) | exact Or.inr (Or.inr rfl)) (hd : (x == ("__debug__" : Str)) = false := by decide) (hcd : (x == ("__classdict__" : Str)) = false := by decide) (hs : ∀ z, foldedSetIterable (.Name x p) X.env z = pure z := by intro _; rfl) :
    PS X (.For tg (.Name x p) sts [] pos) (tS (cfg X) W (sForD t i body)) := by
  have base : PS X (.For tg (.Name x p) sts [] pos) (fun D σ H => Frz i σ H ∧ tS (cfg X) W (sFor t (cKeys i) body) D σ H) :=
    ps_imp (ps_for hp hc (pi_keysF (W := W) i hi hv hd hcd) hg hb (hs := hs)) fun D σ H ⟨p, q⟩ => ⟨p, tS_for q⟩
  refine ⟨fun pins s σ H D I q => ?_⟩
  obtain ⟨ρ, env, ro, w, hS, hE, q⟩ := q
  replace q : AfterS (cfg X) W ρ H ro (sFor t (cKeys i) body env ro w).calm D := q
  have ek : ∃ ds w', cKeys i env ro w = .ok ds w' := by
    unfold sFor sLift at q
    cases e : cKeys i env ro w with
    | ok ds w' => exact ⟨ds, w', rfl⟩
    | exn _ _ _ _ => rw [e] at q; exact (show False from q).elim
    | no => rw [e] at q; exact (show False from q).elim
  obtain ⟨ds, w', h3⟩ := ek
  obtain ⟨xs, ei, _⟩ := keys_there h3
  obtain ⟨v, g1, a, kvs, ev, st, k1, k2⟩ := hE.at' i _ ei
  subst ev
  cases ec : sFor t (cKeys i) body env ro w with
  | no => rw [ec] at q; exact (show False from q).elim
  | exn _ _ _ _ _ => rw [ec] at q; exact (show False from q).elim
  | go fl env2 w2 =>
    rw [ec] at q
    rcases st.2 with h | ⟨o, h⟩
    · refine (ps_lock base).run pins s σ H D I ⟨a, .dK kvs, h, trivial, fun od => ⟨⟨a, od, kvs, g1, upd_same⟩, ρ, env, ro, w, reps_lock h st.1 hS, hE.rde (rde_lock h), ?_⟩⟩
      rw [ec]
      cases fl with
      | rt d =>
        intro v ρ' H' x s' r
        obtain ⟨l1, l2, l3⟩ := ext_locked h st.1 x
        exact ⟨l1, q v ρ' _ l3 (reps_unlock l1 l2 s') (Rep.rde (rde_unlock l1) _ r)⟩
      | nx =>
        intro v ρ' H' x s' r
        obtain ⟨l1, l2, l3⟩ := ext_locked h st.1 x
        exact ⟨l1, q v ρ' _ l3 (reps_unlock l1 l2 s') (r.rde (rde_unlock l1))⟩
      | bk =>
        intro v ρ' H' x s' r
        obtain ⟨l1, l2, l3⟩ := ext_locked h st.1 x
        exact ⟨l1, q v ρ' _ l3 (reps_unlock l1 l2 s') (r.rde (rde_unlock l1))⟩
      | ct =>
        intro v ρ' H' x s' r
        obtain ⟨l1, l2, l3⟩ := ext_locked h st.1 x
        exact ⟨l1, q v ρ' _ l3 (reps_unlock l1 l2 s') (r.rde (rde_unlock l1))⟩
    · exact base.run pins s σ H D I ⟨⟨a, o, kvs, g1, h⟩, ρ, env, ro, w, hS, hE, by rw [ec]; exact q⟩
end
section
variable {t : Tg} {own : List Nat} {i : Nat} {tt : Env → M Bool} {f : EF} {k : List D → M D} {env : Env} {ro w : List D} {ks xs : List D} {body : SF}
theorem x_keys (h : env[i]? = some (some (.dic ks xs))) : cKeys i env ro w = .ok ks w := by
  unfold cKeys
  rw [h]
theorem x_compD : cCompD t own i tt f k env ro w = (cComp t own (cKeys i) tt f k env ro w).calm := x_calm
theorem x_forD : sForD t i body env ro w = (sFor t (cKeys i) body env ro w).calm := rfl
end
end Fx
/-! Dicts whose keys are tuples, nested too. -/
namespace Fx
open PySem PySem.Spec L2 PyProof.Rows
section
variable {X : Cx} {pins : List (Addr × Obj)} {σ : L2.St} {H : Hp} {s : Shared} {ρ : Zn}
mutual
theorem Rep.nest (I : Inv X pins σ H s) : ∀ (d : D) {v : V} {u : Value} {κ : NestedKey}, toKey d = some κ → Rep (cfg X) ρ H d v → RelV v u → NestedIs s.heap κ u
  | .int i, v, u, κ, e, h, r => by
    cases e
    cases (show v = .int i from h)
    obtain ⟨t, rfl⟩ := (show ∃ t, u = Value.int i t from r)
    exact .int i t
  | .str x, v, u, κ, e, h, r => by
    cases e
    cases (show v = .str x from h)
    obtain ⟨t, rfl⟩ := (show ∃ t, u = Value.str x t from r)
    exact .text x t
  | .tup ds, v, u, κ, e, ⟨a, vs, ev, h, r⟩, rv => by
    unfold toKey at e
    cases q : toKeys ds with
    | none => rw [q] at e; cases e
    | some ks =>
      rw [q] at e
      cases e
      subst ev
      cases (show u = Value.ref a from rv)
      obtain ⟨its, rl, ⟨o, h1, h2, n, h3⟩, _⟩ := I.tuple (Still.sqT h)
      exact .tup h1 h2 h3 (by simpa using Reps.nest I ds q r rl)
  | .non, v, u, κ, e, _, _ => by cases e
  | .bl _, v, u, κ, e, _, _ => by cases e
  | .fn _, v, u, κ, e, _, _ => by cases e
  | .ref _, v, u, κ, e, _, _ => by cases e
  | .lst _, v, u, κ, e, _, _ => by cases e
  | .dic _ _, v, u, κ, e, _, _ => by cases e
  | .dct _ _, v, u, κ, e, _, _ => by cases e
  | .ins _ _ _, v, u, κ, e, _, _ => by cases e
theorem Reps.nest (I : Inv X pins σ H s) : ∀ (ds : List D) {vs : List V} {us : List Value} {ks : List NestedKey}, toKeys ds = some ks → Reps (cfg X) ρ H ds vs → Vals vs us → NestedAll s.heap ks us
  | [], vs, us, ks, e, h, r => by
    cases e
    cases (show vs = [] from h)
    cases r
    exact .nil
  | d :: ds, vs, us, ks, e, ⟨v, r, ev, h1, h2⟩, rv => by
    subst ev
    unfold toKeys at e
    cases q1 : toKey d with
    | none => simp only [q1] at e; cases e
    | some d1 =>
      cases q2 : toKeys ds with
      | none => simp only [q1, q2] at e; cases e
      | some ds2 =>
        simp only [q1, q2] at e
        cases e
        cases rv with
        | cons r1 r2 => exact .cons (Rep.nest I d q1 h1 r1) (Reps.nest I ds q2 h2 r2)
end
end
/-- keys and values of a dict, and its raw triples -/
inductive XR : List D → List V → List (NestedKey × Addr × Value) → Prop
  | nil : XR [] [] []
  | cons {k : D} {v : V} {κ : List NestedKey} {a : Addr} {u : Value} {ks : List D} {vs : List V} {xs : List (NestedKey × Addr × Value)} : toKey k = some (.tup κ) → (NestedKey.tup κ).depth ≤ 8 → RelV v u → XR ks vs xs → XR (k :: ks) (v :: vs) ((.tup κ, a, u) :: xs)
section
variable {P : Program} {w : World} {es : List DictEntry} {ks : List D} {as : List Addr} {vs : List V} {xs : List (NestedKey × Addr × Value)}
theorem DEnts.xr (en : DEnts w es ks as vs) : ∃ xs, XR ks vs xs ∧ es = xs.map (entryOfKey (nestedKind P w)) ∧ as = xs.map (·.2.1) := by
  induction en with
  | nil => exact ⟨[], .nil, rfl, rfl⟩
  | @cons e k κ a v es ks as vs h1 h2 h3 h4 h5 _ ih =>
    obtain ⟨xs, k1, k2, k3⟩ := ih
    refine ⟨(.tup κ, a, e.val) :: xs, .cons h1 h2 h5 k1, ?_, ?_⟩
    · rw [List.map_cons, ← k2]
      congr 1
      cases e
      simp only at h3 h4
      rw [h3, h4]
      rfl
    · rw [List.map_cons, ← k3]
theorem XR.ents (h : XR ks vs xs) : DEnts w (xs.map (entryOfKey (nestedKind P w))) ks (xs.map (·.2.1)) vs := by
  induction h with
  | nil => exact .nil
  | cons h1 h2 h3 _ ih => exact .cons h1 h2 rfl rfl h3 ih
theorem XR.keys (h : XR ks vs xs) : ks.map toKey = (xs.map (·.1)).map some := by
  induction h with
  | nil => rfl
  | cons h1 _ _ _ ih => simp only [List.map_cons, h1, ih]
theorem XR.len (h : XR ks vs xs) : ks.length = xs.length := by
  have := congrArg List.length h.keys
  simpa using this
theorem nodup_some {α : Type} {l : List α} : (l.map some).Nodup ↔ l.Nodup := by
  constructor
  · intro h
    exact List.Pairwise.of_map some (fun _ _ hne e => hne (congrArg some e)) h
  · intro h
    exact List.Pairwise.map some (fun _ _ hne e => hne (Option.some.inj e)) h
end
section
variable {X : Cx} {pins : List (Addr × Obj)} {σ : L2.St} {H : Hp} {s : Shared} {ρ : Zn} {es : List DictEntry} {ep : Nat} {ks : List D} {as : List Addr} {vs : List V} {xs : List (NestedKey × Addr × Value)} {a : Addr}
theorem XR.all_is (I : Inv X pins σ H s) (h : XR ks vs xs) : Reps (cfg X) ρ H ks ((xs.map (·.2.1)).map .ref) → ∀ x ∈ xs, (nestedKind X.prog X.w).is s.heap x.1 x.2.1 := by
  induction h with
  | nil => intro _ x hx; cases hx
  | @cons k v κ b u ks vs xs h1 h2 _ _ ih =>
    rintro ⟨y, r, ev, k1, k2⟩ x hx
    simp only [List.map_cons, List.cons.injEq] at ev
    obtain ⟨e1, e2⟩ := ev
    subst e1 e2
    rcases List.mem_cons.mp hx with e | hx
    · subst e
      exact ⟨Rep.nest I k h1 k1 (show RelV (.ref b) (Value.ref b) from rfl), h2⟩
    · exact ih k2 x hx
theorem dno_ok (I : Inv X pins σ H s) (h : Rd H a (DNo a es ep)) : ∃ o, s.heap.get? a = some o ∧ o.ExactDict ∧ o.data = .dict es.toArray ep ∧ es.length ≤ sizeLine ∧ (a == sysModules) = false := (show ObjOk X.prog X.w H s.heap a (DNo a es ep) from h.ok I.hok).1
theorem dct_raw (I : Inv X pins σ H s) (h : Rd H a (DNo a es ep)) (en : DEnts X.w es ks as vs) (nd : (ks.map toKey).Nodup) (rk : Reps (cfg X) ρ H ks (as.map .ref)) :
    ∃ xs, XR ks vs xs ∧ s.heap.DictOfH (nestedKind X.prog X.w) a xs ∧ (a == sysModules) = false ∧ xs.length ≤ sizeLine ∧ as = xs.map (·.2.1) ∧ es = xs.map (entryOfKey (nestedKind X.prog X.w)) := by
  obtain ⟨o, h1, h2, h3, h4, h5⟩ := dno_ok I h
  obtain ⟨xs, k1, k2, k3⟩ := DEnts.xr (P := X.prog) en
  subst k3
  refine ⟨xs, k1, ⟨o, es.toArray, ep, h1, h2, h3, ?_, k1.all_is I rk, ?_⟩, h5, ?_, rfl, k2⟩
  · simpa using k2
  · exact nodup_some.mp (by rw [← k1.keys]; exact nd)
  · rw [k2, List.length_map] at h4
    exact h4
end
/-! ### what is held -/
def isKey (k : D) : Bool := match toKey k with
  | some (.tup κ) => decide ((NestedKey.tup κ).depth ≤ 8)
  | _ => false
theorem isKey_some {k : D} (h : isKey k = true) : ∃ κ, toKey k = some (.tup κ) ∧ (NestedKey.tup κ).depth ≤ 8 := by
  unfold isKey at h
  split at h
  · exact ⟨_, by assumption, by simpa using h⟩
  · cases h
def dgetN : List D → List D → D → Option D
  | q :: ks, x :: xs, k => if toKey q = toKey k then some x else dgetN ks xs k
  | _, _, _ => none
def dhasN (ks : List D) (k : D) : Bool := ks.any fun q => decide (toKey q = toKey k)
def dputXN : List D → List D → D → D → List D
  | q :: ks, x :: xs, k, v => (if toKey q = toKey k then v else x) :: dputXN ks xs k v
  | _, _, _, _ => []
def dputN (ks xs : List D) (k v : D) : D := if dhasN ks k = true then .dct ks (dputXN ks xs k v) else .dct (ks ++ [k]) (xs ++ [v])
section
variable {C : Cfg} {ρ : Zn} {H : Hp} {ks ds : List D} {vs : List V} {xs : List (NestedKey × Addr × Value)} {k dv : D} {κ : NestedKey} {v : V} {u : Value} {b : Addr}
theorem atKey_cons {x : NestedKey × Addr × Value} : atKey (x :: xs) κ = if x.1 = κ then some x.2 else atKey xs κ := by
  unfold atKey
  rw [List.find?_cons]
  by_cases c : x.1 = κ
  · simp [c]
  · simp [c]
theorem dgetN_rep (hk : toKey k = some κ) (h : XR ks vs xs) : ∀ {ds : List D}, Reps C ρ H ds vs → (∀ d, dgetN ks ds k = some d → ∃ p v, atKey xs κ = some p ∧ RelV v p.2 ∧ Rep C ρ H d v) ∧ (dgetN ks ds k = none → atKey xs κ = none) := by
  induction h with
  | nil => intro ds _; exact ⟨fun d e => (by cases ds <;> cases e), fun _ => rfl⟩
  | @cons q y κ' a u ks vs xs h1 h2 h3 _ ih =>
    intro ds hd
    cases ds with
    | nil => simp [Reps] at hd
    | cons d ds =>
      obtain ⟨z, r, ev, g1, g2⟩ := hd
      simp only [List.cons.injEq] at ev
      obtain ⟨e1, e2⟩ := ev
      subst e1 e2
      unfold dgetN
      rw [h1, hk, atKey_cons]
      by_cases c : (NestedKey.tup κ') = κ
      · rw [if_pos (by rw [c]), if_pos c]
        exact ⟨fun d' e => by cases e; exact ⟨_, _, rfl, h3, g1⟩, fun e => by cases e⟩
      · rw [if_neg (by simpa using c), if_neg c]
        exact ih g2
theorem dhasN_rep (hk : toKey k = some κ) (h : XR ks vs xs) : dhasN ks k = (atKey xs κ).isSome := by
  unfold dhasN
  induction h with
  | nil => rfl
  | @cons q y κ' a u ks vs xs h1 h2 h3 _ ih =>
    rw [List.any_cons, atKey_cons, ih, h1, hk]
    by_cases c : (NestedKey.tup κ') = κ
    · simp [c]
    · simp [c]
theorem putX_rep (hk : toKey k = some κ) (rv : Rep C ρ H dv v) (ru : RelV v u) (h : XR ks vs xs) : ∀ {ds : List D}, Reps C ρ H ds vs → ∃ vs', XR ks vs' (xs.map (putAt κ u)) ∧ Reps C ρ H (dputXN ks ds k dv) vs' := by
  induction h with
  | nil => intro ds _; exact ⟨[], .nil, by cases ds <;> exact rfl⟩
  | @cons q y κ' a u' ks vs xs h1 h2 h3 _ ih =>
    intro ds hd
    cases ds with
    | nil => simp [Reps] at hd
    | cons d ds =>
      obtain ⟨z, r, ev, g1, g2⟩ := hd
      simp only [List.cons.injEq] at ev
      obtain ⟨e1, e2⟩ := ev
      subst e1 e2
      obtain ⟨vs', k1, k2⟩ := ih g2
      unfold dputXN
      have ep : putAt κ u (NestedKey.tup κ', a, u') = if NestedKey.tup κ' = κ then (NestedKey.tup κ', a, u) else (NestedKey.tup κ', a, u') := rfl
      rw [h1, hk, List.map_cons, ep]
      by_cases c : (NestedKey.tup κ') = κ
      · rw [if_pos c, if_pos (congrArg some c)]
        exact ⟨v :: vs', .cons h1 h2 ru k1, v, vs', rfl, rv, k2⟩
      · rw [if_neg c, if_neg (fun z => c (Option.some.inj z))]
        exact ⟨y :: vs', .cons h1 h2 h3 k1, y, vs', rfl, g1, k2⟩
theorem addrs_putAt : (xs.map (putAt κ u)).map (·.2.1) = xs.map (·.2.1) := by
  rw [List.map_map]
  apply List.map_congr_left
  intro x _
  simp only [Function.comp, putAt]
  split <;> rfl
theorem XR.snoc {κ : List NestedKey} (hk : toKey k = some (.tup κ)) (hd : (NestedKey.tup κ).depth ≤ 8) (ru : RelV v u) (h : XR ks vs xs) : XR (ks ++ [k]) (vs ++ [v]) (xs ++ [(.tup κ, b, u)]) := by
  induction h with
  | nil => exact .cons hk hd ru .nil
  | cons h1 h2 h3 _ ih => exact .cons h1 h2 h3 ih
theorem dputN_rep {κ : List NestedKey} (hk : toKey k = some (.tup κ)) (hd : (NestedKey.tup κ).depth ≤ 8) (h : XR ks vs xs) (nd : (ks.map toKey).Nodup) (rk : Reps C ρ H ks ((xs.map (·.2.1)).map .ref)) (rd : Reps C ρ H ds vs) (rb : Rep C ρ H k (.ref b)) (rv : Rep C ρ H dv v) (ru : RelV v u) :
    ∃ ks' ds' vs', dputN ks ds k dv = .dct ks' ds' ∧ XR ks' vs' (storedH xs (.tup κ) b u) ∧ (ks'.map toKey).Nodup ∧ Reps C ρ H ks' (((storedH xs (.tup κ) b u).map (·.2.1)).map .ref) ∧ Reps C ρ H ds' vs' := by
  unfold dputN storedH
  rw [dhasN_rep hk h]
  by_cases c : (atKey xs (.tup κ)).isSome = true
  · rw [if_pos c, if_pos c]
    obtain ⟨vs', k1, k2⟩ := putX_rep hk rv ru h rd
    exact ⟨ks, _, vs', rfl, k1, nd, by rw [addrs_putAt]; exact rk, k2⟩
  · rw [if_neg c, if_neg c]
    refine ⟨ks ++ [k], ds ++ [dv], vs ++ [v], rfl, h.snoc hk hd ru, ?_, ?_, rd.append (Reps.one rv)⟩
    · rw [List.map_append, List.nodup_append]
      refine ⟨nd, by simp, fun x hx y hy e => c ?_⟩
      simp only [List.map_cons, List.map_nil, List.mem_singleton] at hy
      rw [← dhasN_rep hk h]
      unfold dhasN
      rw [List.any_eq_true]
      obtain ⟨q, hq, rfl⟩ := List.mem_map.mp hx
      exact ⟨q, hq, decide_eq_true (e.trans hy)⟩
    · rw [List.map_append, List.map_append]
      exact rk.append (Reps.one rb)
end
/-! ### rules -/
/-- what the dict at a holds at the key y, whenever it is asked -/
def AtK (X : Cx) (H : Hp) (a : Addr) (y : V) (o : Option V) : Prop := ∀ pins σ s u, Inv X pins σ H s → RelV y u →
  ∃ b κ xs, u = .ref b ∧ (nestedKind X.prog X.w).is s.heap κ b ∧ s.heap.DictOfH (nestedKind X.prog X.w) a xs ∧ (a == sysModules) = false ∧ RelO o ((atKey xs κ).map (·.2))
def PutK (X : Cx) (H : Hp) (a : Addr) (y v : V) (N : Hp → Prop) : Prop := ∀ pins σ s u r, Inv X pins σ H s → RelV y u → RelV v r →
  ∃ b κ xs, u = .ref b ∧ (nestedKind X.prog X.w).is s.heap κ b ∧ s.heap.DictOfH (nestedKind X.prog X.w) a xs ∧ (a == sysModules) = false ∧ xs.length < sizeLine ∧ Mut (H a) ∧ ∀ ep, N (upd H a (DNo a ((storedH xs κ b r).map (entryOfKey (nestedKind X.prog X.w))) ep))
theorem stored_len {xs : List (NestedKey × Addr × Value)} {κ : NestedKey} {b : Addr} {r : Value} : (storedH xs κ b r).length ≤ xs.length + 1 := by
  unfold storedH
  split
  · rw [List.length_map]; omega
  · rw [List.length_append, List.length_cons, List.length_nil]; omega
theorem dno_new {P : Program} {w : World} {H : Hp} {h : Heap} {a : Addr} {o : Obj} {es : List DictEntry} {ep : Nat} (h1 : h.get? a = some o) (h2 : o.ExactDict) (h3 : o.data = .dict es.toArray ep) (h4 : es.length ≤ sizeLine) (h5 : (a == sysModules) = false) : ObjOk P w H h a (DNo a es ep) :=
  ⟨⟨o, h1, h2, h3, h4, h5⟩, ⟨o, h1⟩, fun h1 h2 ⟨o, k1, k2, k3, k4, k5⟩ k => ⟨o, k o k1, k2, k3, k4, k5⟩⟩
section
variable {X : Cx} {pos pos' apos cpos p : Pos} {o i e f value : Expr} {td ty tx tv : TE}
theorem room_n {A : Around} (hu : A.units + 65 < cLine) : (nestedKind X.prog X.w).room A.in1 := by
  show A.units + 1 + 8 < cLine
  omega
def rInN (X : Cx) (neg : Bool) : R2 := fun x y H Q => ∃ a o, y = .ref a ∧ AtK X H a x o ∧ Q (.bl (if neg = true then !o.isSome else o.isSome)) H
theorem op_inN (hu : X.A.units + 65 < cLine) : OpR X (compareOp .In) (rInN X false) := by
  intro pins s σ H x y v u Q I rx ry h
  obtain ⟨a, o, rfl, h, q⟩ := h
  cases (show u = Value.ref a from ry)
  obtain ⟨b, κ, xs, rfl, hk, dd, hs, ro⟩ := h pins σ s v I rx
  refine wpAny_in_heap (room_n hu) hk hs dd ?_
  have z := ro.isSome_eq
  rw [Option.isSome_map] at z
  rw [← z]
  exact ⟨.bl _, H, I.tok _, rfl, q⟩
theorem op_notInN (hu : X.A.units + 65 < cLine) : OpR X (compareOp .NotIn) (rInN X true) := by
  intro pins s σ H x y v u Q I rx ry h
  obtain ⟨a, o, rfl, h, q⟩ := h
  cases (show u = Value.ref a from ry)
  obtain ⟨b, κ, xs, rfl, hk, dd, hs, ro⟩ := h pins σ s v I rx
  refine wpAny_notIn_heap (room_n hu) hk hs dd ?_
  have z := ro.isSome_eq
  rw [Option.isSome_map] at z
  rw [← z]
  exact ⟨.bl _, H, I.tok _, rfl, q⟩
def rIxN (X : Cx) : R2 := fun x y H Q => ∃ a v, x = .ref a ∧ AtK X H a y (some v) ∧ Q v H
theorem ix_N (hu : X.A.units + 65 < cLine) : IxR X (rIxN X) := by
  intro value slice pins s σ H x y v u Q I rx ry h hs
  obtain ⟨a, z, rfl, h, q⟩ := h
  cases (show v = Value.ref a from rx)
  obtain ⟨b, κ, xs, rfl, hk, dd, hsm, ro⟩ := h pins σ s u I ry
  obtain ⟨w', hw, rw'⟩ := RelO.some_of (v := z) ro
  obtain ⟨p, hp, hp2⟩ := Option.map_eq_some_iff.mp hw
  refine tail_any dd.typeIs slot_dict_getitem.lookup (wpAny_getItem_heap (room_n hu) hk dd hp ?_) hs
  rw [hp2]
  exact ⟨z, H, I.tok _, rw', q⟩
def tPutN (X : Cx) (td ty tv : TE) : TS := fun D σ H => tv σ H fun v H1 => td σ H1 fun x H2 => ty σ H2 fun y H3 => ∃ a, x = .ref a ∧ PutK X H3 a y v (D.nx σ)
theorem ps_putN (hu : X.A.units + 65 < cLine) (ho : PE X o td) (hi : PE X i ty) (hv : PE X value tv) (hs : swapsWith value (some (.Subscript o i pos')) pos.line X.env = pure false) :
    PS X (.Assign [.Subscript o i pos'] value pos) (tPutN X td ty tv) := by
  refine ⟨fun pins s σ H D I h => ?_⟩
  refine wpAny_Assign_Subscript (thn (hv.run pins s σ H _ I h) fun r s1 ⟨v, H1, I1, rv, q1⟩ => thn (ho.run pins s1 σ H1 _ I1 q1) fun u s2 ⟨x, H2, I2, rx, q2⟩ => thn (hi.run pins s2 σ H2 _ I2 q2) fun iv s3 ⟨y, H3, I3, ry, a, ex, q3⟩ => ?_) hs
  subst ex
  obtain rfl : u = Value.ref a := rx
  obtain ⟨b, κ, xs, rfl, hk, dd, hsm, hl, mu, N⟩ := q3 pins σ s3 iv r I3 ry rv
  refine wpAny_setItem_heap (hsz := Nat.le_of_lt hl) (room_n hu) hk dd fun h' dd' hs' => ?_
  obtain ⟨q, es, ep, hq, h2, h3, h4, _, h5⟩ := dd'
  refine ⟨σ, _, d_write I3 mu hs' ⟨q, hq⟩ (dno_new hq h2 (ep := ep) (es := (storedH xs κ b r).map (entryOfKey (nestedKind X.prog X.w))) (by rw [← h4, Array.toArray_toList]; exact h3) ?_ hsm), N ep⟩
  rw [List.length_map]
  have := stored_len (xs := xs) (κ := κ) (b := b) (r := r)
  omega
def tNewN : TE := fun _ H Q => ∀ p, H p = none → Q (.ref p) (upd H p (DNo p [] 0))
theorem pe_newN : PE X (.Dict [] [] pos) tNewN := ⟨fun pins s σ H Q I h =>
  wpAny_Dict_empty ⟨.ref s.heap.objs.size, _, I.laid (a := s.heap.objs.size) (o := DNo s.heap.objs.size [] 0) (t' := s.toks) (fun _ _ q => Heap.get?_push_of_some _ q) (Nat.le_refl _) (dno_new (Heap.get?_push_size _ rfl) ⟨rfl, rfl, rfl⟩ rfl (Nat.zero_le _) (beq_eq_false_iff_ne.mpr (Ne.symm (Nat.ne_of_lt I.big)))), rfl, h _ (I.hok.fresh (Nat.le_refl _))⟩⟩
/-- the keys, in their order -/
def Itn (d : Addr) (es : List DictEntry) (ep : Nat) : It :=
  ⟨fun i H => Rd H d (DNo d es ep) ∧ ∃ e b, es[i]? = some e ∧ e.key = .ref b, fun i H x H' => H' = H ∧ ∃ e b, es[i]? = some e ∧ e.key = .ref b ∧ x = .ref b, fun i H => Rd H d (DNo d es ep) ∧ es.length ≤ i⟩
theorem turn_keysN {P : Program} {w : World} {K : PySem.W.Frag} {tg : Expr} {d : Addr} {es : List DictEntry} {ep : Nat} (it : Addr) : Turn P w K tg (Itn d es ep) [it] it (fun i h => h.IsKeyIter it d i es.length ep) where
  mem := by simp
  obj := fun i h st b hb => by
    have e : b = it := by simpa using hb
    subst e
    obtain ⟨oi, e, c, dd⟩ := st
    exact ⟨oi, e, fun v z => by rw [dd] at z; cases z⟩
  keep := fun i h h' st k => st.at fun oi e => k it (by simp) oi e
  item := by
    intro X hP hw hK hc i pins s σ H E I hf st hg
    subst hP hw hK
    obtain ⟨hd, en, b, hen, hkey⟩ := hg
    obtain ⟨f0, f1, f2, f3, f4, f5⟩ := hf it (by simp)
    obtain ⟨o, hgd, hx, hdt, hsz, hs⟩ := dno_ok I hd
    refine next_key_item st hgd hdt (by simp) (en := en) (by simpa using hen) fun h' st' sb => ?_
    have I1 : Inv X pins σ H { s with heap := h' } := I.turned (t' := s.toks) (fun b ob hb e => (sb.2 b hb).trans e) f0 f1 f3 f4 f5
    obtain ⟨oi, e, c, dd⟩ := id st'
    refine ⟨en.key, rfl, go_of (s := { s with heap := h' }) e c dd (by decide) ⟨.ref b, H, I1, hkey, ⟨rfl, en, b, hen, hkey, rfl⟩, st', fun b hb => (hf b hb).1⟩⟩
  done := by
    intro X hP hw hK hc i pins s σ H E I hf st hg
    subst hP hw hK
    obtain ⟨hd, hi⟩ := hg
    obtain ⟨f0, f1, f2, f3, f4, f5⟩ := hf it (by simp)
    obtain ⟨o, hgd, hx, hdt, hsz, hs⟩ := dno_ok I hd
    exact next_key_end (I.ok.hd hc) st hgd hdt (by simp) hi fun h' eb => ⟨rfl, I.turned (t' := s.toks) (fun b ob hb e => eb b ob hb e) f0 f1 f3 f4 f5⟩
  self := fun A i s Q E st h => wpAny_pyIter_keyiter st h
def iKeysN (td : TE) : TI := fun σ H R => td σ H fun x H1 => ∃ d es ep, x = .ref d ∧ Rd H1 d (DNo d es ep) ∧ R (Itn d es ep) H1
theorem pi_keysN {tg : Expr} (he : PE X e td) : PI X tg e (iKeysN td) := by
  refine ⟨fun pins s σ H R I h => ?_⟩
  refine thn (he.run pins s σ H _ I h) fun u s1 ⟨x, H1, I1, rx, d, es, ep, ex, hd, q⟩ => ?_
  subst ex
  obtain rfl : u = Value.ref d := rx
  obtain ⟨o, hgd, hx, hdt, hsz, hs⟩ := dno_ok I1 hd
  refine iter_keys hs hgd hx hdt (pi_one (tk := s1.toks) I1 _ (turn_keysN _) ⟨_, Heap.get?_push_size _ rfl, rfl, ?_⟩ q)
  simp
end
end Fx
/-! Sorting of nested tuples: two of them may differ in shape behind the first place at which they differ. -/
namespace Fx.So
open PySem PySem.W PySem.SeqAt PySem.Calls PyProof.Rows
mutual
/-- x < y can be asked -/
def akin : PyData → PyData → Bool
  | .int _, .int _ => true
  | .str _, .str _ => true
  | .tuple xs, .tuple ys => akinAll xs ys
  | _, _ => false
def akinAll : List PyData → List PyData → Bool
  | x :: xs, y :: ys => akin x y && (!PyData.eqv x y || akinAll xs ys)
  | [], _ => true
  | _ :: _, [] => true
end
theorem akin_cons {x y : PyData} {xs ys : List PyData} (h : akinAll (x :: xs) (y :: ys) = true) : akin x y = true ∧ (PyData.eqv x y = true → akinAll xs ys = true) := by
  rw [akinAll, Bool.and_eq_true, Bool.or_eq_true] at h
  refine ⟨h.1, fun e => ?_⟩
  rcases h.2 with z | z
  · rw [e] at z
    cases z
  · exact z
abbrev lx := PyProof.Rows.lexLt itemOrd
mutual
theorem toks_akin : ∀ (x y : PyData), akin x y = true → (PyData.eqv x y = true → keyToks x = keyToks y) ∧ (PyData.eqv x y = false → ∀ l m, lx (keyToks x ++ l) (keyToks y ++ m) = lx (keyToks x) (keyToks y))
  | .int a, y, h => by
    cases y with
    | int b => exact toks_eqv (.int a) (.int b) rfl
    | _ => simp [akin] at h
  | .str a, y, h => by
    cases y with
    | str b => exact toks_eqv (.str a) (.str b) rfl
    | _ => simp [akin] at h
  | .tuple xs, y, h => by
    cases y with
    | tuple ys =>
      have t := toks_akinAll xs ys (by simpa [akin] using h)
      simp only [keyToks, PyData.eqv]
      exact t
    | _ => simp [akin] at h
  | .none, y, h => by cases y <;> simp [akin] at h
  | .bool _, y, h => by cases y <;> simp [akin] at h
  | .list _, y, h => by cases y <;> simp [akin] at h
  | .dict _, y, h => by cases y <;> simp [akin] at h
theorem toks_akinAll : ∀ (xs ys : List PyData), akinAll xs ys = true → (PyData.eqvAll xs ys = true → keyToksAll xs = keyToksAll ys) ∧ (PyData.eqvAll xs ys = false → ∀ l m, lx (keyToksAll xs ++ l) (keyToksAll ys ++ m) = lx (keyToksAll xs) (keyToksAll ys))
  | [], [], _ => ⟨fun _ => rfl, fun e => (by simp [PyData.eqvAll] at e)⟩
  | [], y :: ys, _ => toksAll_eqv [] (y :: ys) rfl
  | x :: xs, [], _ => toksAll_eqv (x :: xs) [] rfl
  | x :: xs, y :: ys, h => by
    obtain ⟨h1, h2⟩ := akin_cons h
    have a := toks_akin x y h1
    have self : ∀ (p q : List (Int ⊕ List Nat)), lx (.inl 1 :: p) (.inl 1 :: q) = lx p q := fun p q => lex_self (O := itemOrd) _ p q
    cases hx : PyData.eqv x y with
    | true =>
      have b := toks_akinAll xs ys (h2 hx)
      refine ⟨fun e => ?_, fun e l m => ?_⟩
      · rw [eqv_all_cons, hx, Bool.true_and] at e
        rw [toks_all_cons, toks_all_cons, a.1 hx, b.1 e]
      · rw [eqv_all_cons, hx, Bool.true_and] at e
        rw [toks_all_cons, toks_all_cons, a.1 hx, List.cons_append, List.cons_append, self, self, List.append_assoc, List.append_assoc]
        exact (lex_pre _ _ _).trans ((b.2 e l m).trans (lex_pre _ _ _).symm)
    | false =>
      refine ⟨fun e => (by rw [eqv_all_cons, hx] at e; cases e), fun _ l m => ?_⟩
      rw [toks_all_cons, toks_all_cons, List.cons_append, List.cons_append, self, self, List.append_assoc, List.append_assoc]
      exact (a.2 hx _ _).trans (a.2 hx _ _).symm
end
theorem lt_yes {x y : PyData} {xs ys : List PyData} (h : akin x y = true) (e : PyData.eqv x y = true) : lx (keyToksAll (x :: xs)) (keyToksAll (y :: ys)) = lx (keyToksAll xs) (keyToksAll ys) := by
  rw [toks_all_cons, toks_all_cons, (toks_akin x y h).1 e]
  exact (lex_self (O := itemOrd) _ _ _).trans (lex_pre _ _ _)
theorem lt_no {x y : PyData} {xs ys : List PyData} (h : akin x y = true) (e : PyData.eqv x y = false) : lx (keyToksAll (x :: xs)) (keyToksAll (y :: ys)) = dataLt x y := by
  rw [toks_all_cons, toks_all_cons]
  exact (lex_self (O := itemOrd) _ _ _).trans ((toks_akin x y h).2 e _ _)
theorem first_akin : ∀ (xs ys : List PyData), akinAll xs ys = true →
    firstLt (pairEq xs ys) (fun j => dataLt (xs.getD j .none) (ys.getD j .none)) (decide (xs.length < ys.length)) (List.range (min xs.length ys.length)) = lx (keyToksAll xs) (keyToksAll ys)
  | [], [], _ => firstLt_toks [] [] rfl
  | [], y :: ys, _ => firstLt_toks [] (y :: ys) rfl
  | x :: xs, [], _ => firstLt_toks (x :: xs) [] rfl
  | x :: xs, y :: ys, h => by
    obtain ⟨h1, h2⟩ := akin_cons h
    have em : min (x :: xs).length (y :: ys).length = min xs.length ys.length + 1 := by
      simp only [List.length_cons]
      omega
    have ed : decide ((x :: xs).length < (y :: ys).length) = decide (xs.length < ys.length) := decide_eq_decide.mpr (by simp)
    rw [em, ed, List.range_succ_eq_map]
    cases hx : PyData.eqv x y with
    | true =>
      rw [firstLt_yes (show pairEq (x :: xs) (y :: ys) 0 = true from hx), firstLt_map, lt_yes h1 hx, ← first_akin xs ys (h2 hx)]
      rfl
    | false =>
      rw [firstLt_no (show pairEq (x :: xs) (y :: ys) 0 = false from hx), lt_no h1 hx]
      rfl
/-! a < b of tuples: < is asked at the first place that differs alone -/
section
open AutoSeq1 (wpAny_loadPart')
open MeetsSeq MeetsSeq2 MeetsSeq3 SeqRoads2

theorem tup_lt (l b : Addr) (us vs : Array Value) (n n2 : Nat) (dd dd2 : Option Addr) (sl sl2 : Array (Option Value)) (e r : Nat → Bool) :
    Meets (Builtin.«tuple.__lt__» ⟨[.ref l, .ref b], []⟩)
      (fun A R s => s.heap.get? l = some { cls := .type "tuple", dict := dd, data := .seq us n, slots := sl } ∧ s.heap.get? b = some { cls := .type "tuple", dict := dd2, data := .seq vs n2, slots := sl2 } ∧
        (∀ j (h1 : j < us.size) (h2 : j < vs.size), (∀ i, i < j → e i = true) → EqAt A.in1 s us[j] vs[j] (e j)) ∧ (∀ j (h1 : j < us.size) (h2 : j < vs.size), (∀ i, i < j → e i = true) → e j = false → RcLt A.in1 s us[j] vs[j] (r j)) ∧
        R (.ok (.ret (.bool (firstLt e r (decide (us.size < vs.size)) (List.range (min us.size vs.size)))))) s) :=
  .of_wp fun prog w A R s h => by
    obtain ⟨hp, g, d, tk, os⟩ := s; obtain ⟨hl, hb, he, hr, h⟩ := h
    have f2 := AutoSeq1.sub_tuple_tuple
    have hZ : (us.toList.zip vs.toList).length = min us.size vs.size := by simp
    wp_walk using wpAny_loadPart' hl, wpAny_loadPart' hb, wpAny_forIn_list _ (fun rest b s' => b.1 = none ∧ s' = ⟨hp, g, d, tk, os⟩ ∧ ∃ i, (∀ k, k < i → e k = true) ∧ rest = (us.toList.zip vs.toList).drop i ∧
      R (.ok (.ret (.bool (firstLt e r (decide (us.size < vs.size)) ((List.range (min us.size vs.size)).drop i))))) ⟨hp, g, d, tk, os⟩) _
    case turn =>
      rintro ⟨p, q⟩ rest c s' ⟨hc, rfl, i, hi, hz, hR⟩
      have lt : i < (us.toList.zip vs.toList).length := by
        rcases Nat.lt_or_ge i (us.toList.zip vs.toList).length with h' | h'
        · exact h'
        · rw [List.drop_of_length_le h'] at hz; cases hz
      have lm : i < min us.size vs.size := hZ ▸ lt
      have l1 : i < us.size := by omega
      have l2 : i < vs.size := by omega
      rw [List.drop_eq_getElem_cons lt] at hz
      injection hz with hpq hrest
      have ep : p = us[i] := by have := congrArg Prod.fst hpq; simpa using this
      have eq : q = vs[i] := by have := congrArg Prod.snd hpq; simpa using this
      subst ep eq
      have dr : (List.range (min us.size vs.size)).drop i = i :: (List.range (min us.size vs.size)).drop (i + 1) := by simp [List.drop_eq_getElem_cons, lm]
      rw [dr] at hR
      have hi' : e i = true → ∀ k, k < i + 1 → e k = true := fun ei k hk => by
        rcases Nat.lt_succ_iff_lt_or_eq.mp hk with z | z
        · exact hi k z
        · rw [z]
          exact ei
      refine wpAny_bind (he i l1 l2 hi prog w _ _ ?_)
      cases ei : e i with
      | true =>
        rw [firstLt_yes ei] at hR
        wp_walk
        exact ⟨rfl, rfl, i + 1, hi' ei, hrest, hR⟩
      | false =>
        rw [firstLt_no ei] at hR
        have z := hr i l1 l2 hi ei prog w
        dsimp only
        generalize PySem.richCompare CmpOp.Lt us[i] vs[i] = rc at z ⊢
        wp_walk
        refine z _ _ ?_
        wp_walk
        exact ⟨_, rfl, hR⟩
    case fin =>
      rintro ⟨b1, b2⟩ s' ⟨hc, rfl, i, hi, hz, hR⟩
      simp only at hc
      subst hc
      have ge : min us.size vs.size ≤ i := by
        rcases Nat.lt_or_ge i (us.toList.zip vs.toList).length with h' | h'
        · rw [List.drop_eq_getElem_cons h'] at hz; cases hz
        · exact hZ ▸ h'
      rw [List.drop_of_length_le (by simpa using ge)] at hR
      wp_walk
      exact ⟨_, rfl, by simpa [Builtin.Tuple.tupleCompareSizes, firstLt] using hR⟩
    case h =>
      exact ⟨rfl, rfl, 0, fun k hk => absurd hk (Nat.not_lt_zero k), rfl, by simpa using h⟩
theorem rc_tup {A : Around} {s : Shared} {l b : Addr} {us vs : Array Value} {e r : Nat → Bool} (hl : s.heap.IsTuple l us) (hb : s.heap.IsTuple b vs) (hu : A.units < cLine)
    (he : ∀ j (h1 : j < us.size) (h2 : j < vs.size), (∀ i, i < j → e i = true) → EqAt A.in1 s us[j] vs[j] (e j)) (hr : ∀ j (h1 : j < us.size) (h2 : j < vs.size), (∀ i, i < j → e i = true) → e j = false → RcLt A.in1 s us[j] vs[j] (r j)) :
    RcLt A s (.ref l) (.ref b) (firstLt e r (decide (us.size < vs.size)) (List.range (min us.size vs.size))) := fun prog w E Q h => by
  obtain ⟨⟨cls, dd, data, sl⟩, ho, hc, n, hd⟩ := id hl
  obtain ⟨⟨cls2, dd2, data2, sl2⟩, ho2, hc2, n2, hd2⟩ := id hb
  simp only at hc hd hc2 hd2
  subst hc hd hc2 hd2
  exact richCompare_meets_room (op := .Lt) ⟨_, ho, rfl⟩ ⟨_, ho2, rfl⟩ F.slot_tuple_lt F.entry_tuple_lt (F.args_tuple_lt_2 _ _) (tup_lt l b us vs n n2 dd dd2 sl sl2 e r) ⟨ho, ho2, he, hr, (fun x => nomatch x), h⟩ hu
end
mutual
/-- x < y of akin data -/
theorem rc_akin : ∀ (x y : PyData) (A : Around) (s : Shared) (u v : Value) (as bs : List Addr), Reads s.heap u x as → Reads s.heap v y bs → akin x y = true → x.canLay0 = true → y.canLay0 = true → A.units + min x.depth y.depth < cLine → RcLt A s u v (dataLt x y)
  | .int a, y, A, s, u, v, as, bs, ra, rb, h, _, _, hu => by
    cases y with
    | int b => exact rcLt_alike (.int a) (.int b) A s u v as bs ra rb rfl (fun z => nomatch z) hu
    | _ => simp [akin] at h
  | .str a, y, A, s, u, v, as, bs, ra, rb, h, _, _, hu => by
    cases y with
    | str b => exact rcLt_alike (.str a) (.str b) A s u v as bs ra rb rfl (fun z => nomatch z) hu
    | _ => simp [akin] at h
  | .tuple xs, y, A, s, u, v, as, bs, ra, rb, h, la, lb, hu => by
    cases y with
    | tuple ys =>
      have hal : akinAll xs ys = true := by simpa [akin] using h
      have la' : PyData.canLayAll0 xs = true := by simpa [PyData.canLay0] using la
      have lb' : PyData.canLayAll0 ys = true := by simpa [PyData.canLay0] using lb
      cases ra with
      | @tuple l o us n _ as₁ h1 h2 h3 h4 =>
        cases rb with
        | @tuple l' o' vs n' _ bs₁ k1 k2 k3 k4 =>
          have n1 : us.size = xs.length := by simpa using ReadsAll.length _ _ _ h4
          have n2 : vs.size = ys.length := by simpa using ReadsAll.length _ _ _ k4
          have fa : PyProof.Rows.lexLt itemOrd (keyToksAll xs) (keyToksAll ys) = _ := (first_akin xs ys hal).symm
          rw [dataLt_tuple, fa, ← n1, ← n2]
          refine rc_tup ⟨_, h1, h2, _, h3⟩ ⟨_, k1, k2, _, k3⟩ (room_here hu) (fun j j1 j2 _ => ?_) fun j j1 j2 hj hjj => ?_
          · have := eqAt_readsAll xs ys A.in1 s us.toList vs.toList _ _ h4 k4 la' lb' (room_in hu) j (by simpa using j1) (by simpa using j2)
            simpa using this
          · have := rc_akinAll xs ys A.in1 s us.toList vs.toList _ _ h4 k4 hal la' lb' (room_in hu) j (by simpa using j1) (by simpa using j2) hj hjj
            simpa using this
    | _ => simp [akin] at h
  | .none, y, _, _, _, _, _, _, _, _, h, _, _, _ => by cases y <;> simp [akin] at h
  | .bool _, y, _, _, _, _, _, _, _, _, h, _, _, _ => by cases y <;> simp [akin] at h
  | .list _, y, _, _, _, _, _, _, _, _, h, _, _, _ => by cases y <;> simp [akin] at h
  | .dict _, y, _, _, _, _, _, _, _, _, h, _, _, _ => by cases y <;> simp [akin] at h
theorem rc_akinAll : ∀ (xs ys : List PyData) (A : Around) (s : Shared) (us vs : List Value) (as bs : List Addr), ReadsAll s.heap us xs as → ReadsAll s.heap vs ys bs → akinAll xs ys = true → PyData.canLayAll0 xs = true → PyData.canLayAll0 ys = true →
    A.units + min (PyData.depthAll xs) (PyData.depthAll ys) < cLine → ∀ j (h1 : j < us.length) (h2 : j < vs.length), (∀ i, i < j → pairEq xs ys i = true) → pairEq xs ys j = false → RcLt A s us[j] vs[j] (dataLt (xs.getD j .none) (ys.getD j .none))
  | [], _, _, _, _, _, _, _, ra, _, _, _, _, _, j, h1, _, _, _ => by cases ra; exact absurd h1 (Nat.not_lt_zero _)
  | _ :: _, [], _, _, _, _, _, _, _, rb, _, _, _, _, j, _, h2, _, _ => by cases rb; exact absurd h2 (Nat.not_lt_zero _)
  | x :: xs, y :: ys, A, s, _, _, _, _, ra, rb, h, la, lb, hu, j, h1, h2, hi, hj => by
    obtain ⟨a1, a2⟩ := akin_cons h
    have la' : x.canLay0 = true ∧ PyData.canLayAll0 xs = true := by simpa [PyData.canLayAll0] using la
    have lb' : y.canLay0 = true ∧ PyData.canLayAll0 ys = true := by simpa [PyData.canLayAll0] using lb
    cases ra with
    | cons r rs =>
      cases rb with
      | cons r' rs' =>
        cases j with
        | zero => exact rc_akin x y A s _ _ _ _ r r' a1 la'.1 lb'.1 (room_head hu)
        | succ j => exact rc_akinAll xs ys A s _ _ _ _ rs rs' (a2 (hi 0 (Nat.succ_pos j))) la'.2 lb'.2 (room_tail hu) j (Nat.lt_of_succ_lt_succ h1) (Nat.lt_of_succ_lt_succ h2) (fun i hij => hi (i + 1) (Nat.succ_lt_succ hij)) hj
end
section
variable {prog : Program} {w : World} {A : Around} {E : Value → Shared → Prop} {s : Shared}
theorem one_akin {f : Bool} {x y : PyData} {u v : Value} {as bs : List Addr} {Q : Bool → Shared → Prop} (hf : f = true → ∀ xs, x ≠ .tuple xs) (ra : Reads s.heap u x as) (rb : Reads s.heap v y bs) (h : akin x y = true) (la : x.canLay0 = true) (lb : y.canLay0 = true)
    (hu : A.units + min x.depth y.depth < cLine) (hq : Q (dataLt x y) s) : wpAny (model prog w) A (oneLt' f u v) Q E s := by
  cases f with
  | false =>
    rw [oneLt'_eq]
    simp only [Bool.false_eq_true, if_false]
    exact wpAny_bind (rc_akin x y A s u v as bs ra rb h la lb hu prog w E _ (wpAny_truthy_bool hq))
  | true =>
    have hal : alike x y = true := by
      cases x with
      | int a => cases y <;> simp [akin] at h <;> rfl
      | str a => cases y <;> simp [akin] at h <;> rfl
      | tuple xs => exact absurd rfl (hf rfl xs)
      | _ => cases y <;> simp [akin] at h
    have hne : x ≠ .none := fun z => by
      rw [z] at h
      cases y <;> simp [akin] at h
    exact oneLt_alike hf ra rb hal hne hu hq
theorem kat_akin {b fin : Bool} {Q : Bool → Shared → Prop} : ∀ (xs ys : List PyData) (i : Nat) (us vs : List Value) (as bs : List Addr), ReadsAll s.heap us xs as → ReadsAll s.heap vs ys bs → akinAll xs ys = true → PyData.canLayAll0 xs = true → PyData.canLayAll0 ys = true →
    A.units + min (PyData.depthAll xs) (PyData.depthAll ys) < cLine → (b = true → i = 0 → ∀ x r t, xs = x :: r → x ≠ .tuple t) → fin = decide (xs.length < ys.length) → Q (lx (keyToksAll xs) (keyToksAll ys)) s → KatLex prog w A b fin Q (us.zip vs) i s
  | [], ys, i, us, vs, as, bs, ra, rb, _, _, _, hu, hb, hf, hq => katLex_alike [] ys i us vs as bs ra rb (by cases ys <;> rfl) hu hb hf hq
  | x :: xs, [], i, us, vs, as, bs, ra, rb, _, _, _, hu, hb, hf, hq => katLex_alike (x :: xs) [] i us vs as bs ra rb rfl hu hb hf hq
  | x :: xs, y :: ys, i, _, _, _, _, ra, rb, h, la, lb, hu, hb, hf, hq => by
    obtain ⟨h1, h2⟩ := akin_cons h
    have la' : x.canLay0 = true ∧ PyData.canLayAll0 xs = true := by simpa [PyData.canLayAll0] using la
    have lb' : y.canLay0 = true ∧ PyData.canLayAll0 ys = true := by simpa [PyData.canLayAll0] using lb
    have hf' : fin = decide (xs.length < ys.length) := by
      rw [hf]
      exact decide_eq_decide.mpr (by simp)
    cases ra with
    | cons r rs =>
      cases rb with
      | cons r' rs' =>
        rw [List.zip_cons_cons]
        refine kat_cons (eqAt_reads x y A s _ _ _ _ r r' la'.1 lb'.1 (room_head hu) prog w _ _ ?_)
        cases hx : PyData.eqv x y with
        | true =>
          rw [lt_yes h1 hx] at hq
          exact kat_yes (kat_akin xs ys (i + 1) _ _ _ _ rs rs' (h2 hx) la'.2 lb'.2 (room_tail hu) (fun _ hi => absurd hi (Nat.succ_ne_zero i)) hf' hq)
        | false =>
          rw [lt_no h1 hx] at hq
          refine kat_no (one_akin (fun hbi t => ?_) r r' h1 la'.1 lb'.1 (room_head hu) hq)
          rw [Bool.and_eq_true] at hbi
          exact hb hbi.1 (by simpa using hbi.2) x xs t rfl
end
/-! what is read is one thing -/
mutual
def plainD : PyData → Bool
  | .int _ => true
  | .str _ => true
  | .tuple xs => plainDs xs
  | _ => false
def plainDs : List PyData → Bool
  | [] => true
  | x :: xs => plainD x && plainDs xs
end
mutual
theorem one_read {h : Heap} : ∀ (d d' : PyData) (v : Value) (as as' : List Addr), plainD d = true → plainD d' = true → Reads h v d as → Reads h v d' as' → d = d'
  | .int _, d', _, _, _, _, p', r, r' => by
    cases r
    cases r' <;> first | rfl | simp [plainD] at p'
  | .str _, d', _, _, _, _, p', r, r' => by
    cases r
    cases r' <;> first | rfl | simp [plainD] at p'
  | .tuple xs, d', _, _, _, p, p', r, r' => by
    cases r with
    | tuple h1 h2 h3 h4 =>
      cases r' with
      | tuple k1 k2 k3 k4 =>
        rw [h1] at k1; cases k1
        rw [h3] at k3; cases k3
        rw [one_reads xs _ _ _ _ (by simpa [plainD] using p) (by simpa [plainD] using p') h4 k4]
      | list k1 k2 k3 k4 => simp [plainD] at p'
      | dict k1 k2 k3 k4 k5 => simp [plainD] at p'
  | .none, _, _, _, _, p, _, _, _ => by simp [plainD] at p
  | .bool _, _, _, _, _, p, _, _, _ => by simp [plainD] at p
  | .list _, _, _, _, _, p, _, _, _ => by simp [plainD] at p
  | .dict _, _, _, _, _, p, _, _, _ => by simp [plainD] at p
theorem one_reads {h : Heap} : ∀ (xs ys : List PyData) (vs : List Value) (as as' : List Addr), plainDs xs = true → plainDs ys = true → ReadsAll h vs xs as → ReadsAll h vs ys as' → xs = ys
  | [], _, _, _, _, _, _, r, r' => by cases r; cases r'; rfl
  | x :: xs, [], _, _, _, _, _, r, r' => by cases r'; cases r
  | x :: xs, y :: ys, _, _, _, p, p', r, r' => by
    have p1 : plainD x = true ∧ plainDs xs = true := by simpa [plainDs] using p
    have p2 : plainD y = true ∧ plainDs ys = true := by simpa [plainDs] using p'
    cases r with
    | cons h1 h2 =>
      cases r' with
      | cons k1 k2 => rw [one_read x y _ _ _ p1.1 p2.1 h1 k1, one_reads xs ys _ _ _ p1.2 p2.2 h2 k2]
end
/-- what can be sorted: all texts; all numbers; all tuples that begin with a text, or with a number -/
def firstT : PyData → Nat
  | .int _ => 0
  | .str _ => 1
  | .tuple (.int _ :: _) => 2
  | .tuple (.str _ :: _) => 3
  | _ => 4
structure CanSort (ds : List PyData) : Prop where
  pl : ∀ d ∈ ds, plainD d = true
  ak : ∀ d ∈ ds, ∀ d' ∈ ds, akin d d' = true
  ft : ∃ n, n < 4 ∧ ∀ d ∈ ds, firstT d = n
theorem kind_some {h : Heap} {ds : List PyData} (hp : ∀ d ∈ ds, plainD d = true) {v : Value} {d : PyData} {as : List Addr} (hd : d ∈ ds) (r : Reads h v d as) : (dataKind h ds).keyOf v = some (keyToks d) := by
  have q : ∃ d, d ∈ ds ∧ ∃ as, Reads h v d as := ⟨d, hd, as, r⟩
  have e : (dataKind h ds).keyOf v = some (keyToks q.choose) := by
    show (open Classical in if q : ∃ d, d ∈ ds ∧ ∃ as, Reads h v d as then some (keyToks q.choose) else none) = _
    rw [dif_pos q]
  obtain ⟨h1, as', h2⟩ := q.choose_spec
  rw [e, one_read _ _ _ _ _ (hp _ h1) (hp _ hd) h2 r]
theorem tup_first {d : PyData} {n : Nat} (h : firstT d = n) (hn : n < 4) : (n = 0 ∧ ∃ i, d = .int i) ∨ (n = 1 ∧ ∃ x, d = .str x) ∨ (n = 2 ∧ ∃ i r, d = .tuple (.int i :: r)) ∨ (n = 3 ∧ ∃ x r, d = .tuple (.str x :: r)) := by
  unfold firstT at h
  split at h
  · exact .inl ⟨h.symm, _, rfl⟩
  · exact .inr (.inl ⟨h.symm, _, rfl⟩)
  · exact .inr (.inr (.inl ⟨h.symm, _, _, rfl⟩))
  · exact .inr (.inr (.inr ⟨h.symm, _, _, rfl⟩))
  · omega
theorem sorts_akin {prog : Program} {w : World} {A : Around} {s : Shared} {vs : List Value} {ds : List PyData} (e : EachIs (fun v d => ∃ as, Reads s.heap v d as) vs ds) (C : CanSort ds) (hl : ∀ d ∈ ds, d.canLay0 = true) (hu : ∀ d, d ∈ ds → A.units + d.depth < cLine) : SortsAt prog w A s (dataKind s.heap ds) vs := by
  have room : ∀ {d d' : PyData}, d ∈ ds → A.units + min d.depth d'.depth < cLine := fun {d d'} hd => Nat.lt_of_le_of_lt (Nat.add_le_add_left (Nat.min_le_left _ _) _) (hu d hd)
  obtain ⟨n, hn, ft⟩ := C.ft
  have keys : ∀ v, v ∈ vs → ∃ a, (dataKind s.heap ds).keyOf v = some a := fun v hv => by
    obtain ⟨d, hd, as, r⟩ := e.left v hv
    exact ⟨_, kind_some C.pl hd r⟩
  -- tuples
  have tups : ∀ (T : Value), (T == T) = true → (T != Value.type "tuple") = true → (∀ d ∈ ds, ∃ x r, d = .tuple (x :: r) ∧ dataType x = T ∧ ∀ t, x ≠ .tuple t) → SortsAt prog w A s (dataKind s.heap ds) vs := fun T hTT hT hall => by
    refine ⟨keys, tuples' (T != Value.type "tuple"), ?_, fun h2 E Q hq => ?_⟩
    · intro E x y a b Q ha hb hq
      obtain ⟨d, as, hd, ra, rfl⟩ := dataKind_inv ha
      obtain ⟨d', as', hd', rb, rfl⟩ := dataKind_inv hb
      have hdd := C.ak d hd d' hd'
      have hroom := room (d' := d') hd
      have l1 := hl d hd
      have l2 := hl d' hd'
      obtain ⟨x1, r1, rfl, _, nt⟩ := hall d hd
      obtain ⟨x2, r2, rfl, _⟩ := hall d' hd'
      have hq' : Q (dataLt (.tuple (x1 :: r1)) (.tuple (x2 :: r2))) s := hq
      rw [dataLt_tuple] at hq'
      cases ra with
      | @tuple l o xs n _ _ h1 h2 h3 h4 =>
        cases rb with
        | @tuple l' o' xs' n' _ _ k1 k2 k3 k4 =>
          have n1 : xs.size = (x1 :: r1).length := by simpa using SeqAt.ReadsAll.length _ _ _ h4
          have n2 : xs'.size = (x2 :: r2).length := by simpa using SeqAt.ReadsAll.length _ _ _ k4
          refine kat_lt h1 h3 k1 k3 (kat_akin (x1 :: r1) (x2 :: r2) 0 _ _ _ _ h4 k4 (by simpa [akin] using hdd) (by simpa [PyData.canLay0] using l1) (by simpa [PyData.canLay0] using l2) (by have q := SeqAt.room_in hroom; omega) (fun _ _ x r t ex => ?_) (by rw [n1, n2]) hq')
          obtain ⟨rfl, rfl⟩ := List.cons.inj ex
          exact nt t
    · obtain ⟨fs, t1, t2, t3⟩ := each_katTups e (fun d hd => by obtain ⟨x, r, e1, _⟩ := hall d hd; exact ⟨x, r, e1⟩)
      refine kat_kind (T := T) t1 (by omega) (fun f hf => ?_) hTT hq
      obtain ⟨x, r, as, m1, m2⟩ := t3 f hf
      obtain ⟨x', r', e1, e2, _⟩ := hall _ m1
      injection e1 with e1
      injection e1 with e1 _
      rw [← e2, ← e1]
      exact looks_reads m2
  have al : (∀ d ∈ ds, ∀ d' ∈ ds, alike d d' = true) → (∀ d ∈ ds, d ≠ .none ∧ ∀ xs, d ≠ .tuple xs) → SortsAt prog w A s (dataKind s.heap ds) vs := fun h1 h2 => SortsAt.data e h1 (.inr h2) hu
  by_cases hne : ds = []
  · subst hne
    exact al (fun d hd => by cases hd) fun d hd => by cases hd
  obtain ⟨d0, hd0⟩ := List.exists_mem_of_ne_nil _ hne
  rcases tup_first (ft d0 hd0) hn with ⟨e0, _⟩ | ⟨e0, _⟩ | ⟨e0, _⟩ | ⟨e0, _⟩
  · subst e0
    have all : ∀ d ∈ ds, ∃ i, d = .int i := fun d hd => by rcases tup_first (ft d hd) hn with ⟨_, z⟩ | ⟨z, _⟩ | ⟨z, _⟩ | ⟨z, _⟩ <;> first | exact z | cases z
    exact al (fun d hd d' hd' => by obtain ⟨i, rfl⟩ := all d hd; obtain ⟨j, rfl⟩ := all d' hd'; rfl) fun d hd => by obtain ⟨i, rfl⟩ := all d hd; exact ⟨(fun z => nomatch z), (fun _ z => nomatch z)⟩
  · subst e0
    have all : ∀ d ∈ ds, ∃ i, d = .str i := fun d hd => by rcases tup_first (ft d hd) hn with ⟨z, _⟩ | ⟨_, z⟩ | ⟨z, _⟩ | ⟨z, _⟩ <;> first | exact z | cases z
    exact al (fun d hd d' hd' => by obtain ⟨i, rfl⟩ := all d hd; obtain ⟨j, rfl⟩ := all d' hd'; rfl) fun d hd => by obtain ⟨i, rfl⟩ := all d hd; exact ⟨(fun z => nomatch z), (fun _ z => nomatch z)⟩
  · subst e0
    refine tups (.type "int") (beq_self_eq_true _) (by decide) fun d hd => ?_
    rcases tup_first (ft d hd) hn with ⟨z, _⟩ | ⟨z, _⟩ | ⟨_, i, r, z⟩ | ⟨z, _⟩
    · cases z
    · cases z
    · exact ⟨.int i, r, z, rfl, fun t z => nomatch z⟩
    · cases z
  · subst e0
    refine tups (.type "str") (beq_self_eq_true _) (by decide) fun d hd => ?_
    rcases tup_first (ft d hd) hn with ⟨z, _⟩ | ⟨z, _⟩ | ⟨z, _⟩ | ⟨_, i, r, z⟩
    · cases z
    · cases z
    · cases z
    · exact ⟨.str i, r, z, rfl, fun t z => nomatch z⟩
end Fx.So
/-! Dicts with nested tuples as keys, sorted(..): what they do to trees. -/
namespace Fx
open PySem PySem.Spec L2 PyProof.Rows PySem.W
section
variable {C : Cfg} {ρ : Zn} {H : Hp}
theorem Seen.dct {ks ds : List D} {v : V} (h : Seen C ρ H (.dct ks ds) v) : ∃ a es ep as vs, v = .ref a ∧ Rd H a (DNo a es ep) ∧ DEnts C.w es ks as vs ∧ (ks.map toKey).Nodup ∧ Reps C ρ H ks (as.map .ref) ∧ Reps C ρ H ds vs := by
  rcases h with ⟨a, es, ep, as, vs, e, h, en, nd, rk, r⟩ | ⟨a, e, es, ep, as, vs, h, en, nd, rk, r⟩
  · exact ⟨a, es, ep, as, vs, e, h.2, en, nd, rk, r⟩
  · exact ⟨a, es, ep, as, vs, e, .inl h, en, nd, rk, r⟩
theorem Seen.key {k : D} {v : V} (h : Seen C ρ H k v) (hk : isKey k = true) : Rep C ρ H k v := by
  rcases h with h | ⟨a, e, h⟩
  · exact h
  · obtain ⟨κ, e1, _⟩ := isKey_some hk
    cases k with
    | tup ds => exact (show False from h).elim
    | _ => cases e1
theorem key_ref {k : D} {v : V} (h : Rep C ρ H k v) {κ : List NestedKey} (hk : toKey k = some (.tup κ)) : ∃ b, v = .ref b := by
  cases k with
  | tup ds => obtain ⟨a, vs, e, _⟩ := h; exact ⟨a, e⟩
  | _ => cases hk
/-- the value at a key, of V -/
def getV : List D → List V → D → Option V
  | q :: ks, x :: xs, k => if toKey q = toKey k then some x else getV ks xs k
  | _, _, _ => none
theorem XR.getV {ks : List D} {vs : List V} {xs : List (NestedKey × Addr × Value)} {k : D} {κ : NestedKey} (hk : toKey k = some κ) (h : XR ks vs xs) : RelO (Fx.getV ks vs k) ((atKey xs κ).map (·.2)) := by
  induction h with
  | nil => exact True.intro
  | @cons q y κ' a u ks vs xs h1 h2 h3 _ ih =>
    unfold Fx.getV
    rw [h1, hk, atKey_cons]
    by_cases c : (NestedKey.tup κ') = κ
    · rw [if_pos (congrArg some c), if_pos c]
      exact h3
    · rw [if_neg (fun z => c (Option.some.inj z)), if_neg c]
      exact ih
theorem getV_rep {k : D} : ∀ {ks ds : List D} {vs : List V}, ks.length = ds.length → Reps C ρ H ds vs → (dgetN ks ds k = none → Fx.getV ks vs k = none) ∧ (∀ d, dgetN ks ds k = some d → ∃ v, Fx.getV ks vs k = some v ∧ Rep C ρ H d v)
  | [], ds, vs, _, _ => ⟨fun _ => by cases vs <;> rfl, fun d e => (by cases ds <;> cases e)⟩
  | q :: ks, [], vs, hl, _ => by simp at hl
  | q :: ks, d :: ds, vs, hl, ⟨v, r, e, h1, h2⟩ => by
    subst e
    have ih := getV_rep (k := k) (ks := ks) (by simpa using hl) h2
    unfold dgetN Fx.getV
    by_cases c : toKey q = toKey k
    · rw [if_pos c, if_pos c]
      refine ⟨fun e => (by cases e), fun d' e => ?_⟩
      cases e
      exact ⟨v, rfl, h1⟩
    · rw [if_neg c, if_neg c]
      exact ih
theorem getV_some {k : D} : ∀ {ks : List D} {vs : List V}, ks.length = vs.length → (Fx.getV ks vs k).isSome = dhasN ks k
  | [], vs, _ => by cases vs <;> rfl
  | q :: ks, [], hl => by simp at hl
  | q :: ks, v :: vs, hl => by
    unfold Fx.getV dhasN
    rw [List.any_cons]
    by_cases c : toKey q = toKey k
    · rw [if_pos c]
      simp [c]
    · rw [if_neg c]
      simp only [c, decide_false, Bool.false_or]
      exact getV_some (by simpa using hl)
theorem DEnts.lens {w : World} {es : List DictEntry} {ks : List D} {as : List Addr} {vs : List V} (en : DEnts w es ks as vs) : ks.length = vs.length ∧ es.length = ks.length ∧ as.length = ks.length := by
  induction en with
  | nil => exact ⟨rfl, rfl, rfl⟩
  | cons _ _ _ _ _ _ ih => simp [ih]
end
section
variable {X : Cx} {ρ : Zn} {H : Hp}
theorem at_ok {a : Addr} {es : List DictEntry} {ep : Nat} {ks : List D} {as : List Addr} {vs : List V} {k : D} {y : V} {κ : List NestedKey} (hr : Rd H a (DNo a es ep)) (en : DEnts X.w es ks as vs) (nd : (ks.map toKey).Nodup) (rk : Reps (cfg X) ρ H ks (as.map .ref)) (hk : toKey k = some (.tup κ)) (hd : (NestedKey.tup κ).depth ≤ 8) (ry : Rep (cfg X) ρ H k y) :
    AtK X H a y (Fx.getV ks vs k) := by
  intro pins σ s u I ru
  obtain ⟨xs, k1, k2, k3, k4, k5, k6⟩ := dct_raw I hr en nd rk
  obtain ⟨b, rfl⟩ := key_ref ry hk
  cases (show u = Value.ref b from ru)
  exact ⟨b, _, xs, rfl, ⟨Rep.nest I k hk ry ru, hd⟩, k2, k3, k1.getV hk⟩
def gInN (neg : Bool) (x y : D) : M D := match y with
  | .dct ks _ => fun _ w => if isKey x = true then .ok (.bl (if neg = true then !dhasN ks x else dhasN ks x)) w else .no
  | _ => M.no
theorem ok2_inN {neg : Bool} : Ok2 (cfg X) (rInN X neg) (gInN neg) := by
  intro W σ ρ H ro w d e x y Q hS hd he q
  cases e with
  | dct ks ds =>
    unfold gInN at q
    by_cases c : isKey d = true
    · simp only [if_pos c] at q
      obtain ⟨a, es, ep, as, vs, rfl, hr, en, nd, rk, r⟩ := he.dct
      obtain ⟨κ, e1, e2⟩ := isKey_some c
      refine ⟨a, _, rfl, at_ok hr en nd rk e1 e2 (hd.key c), ?_⟩
      rw [getV_some en.lens.1]
      exact ok_bl hS q
    · simp only [if_neg c] at q
      exact (show False from q).elim
  | _ => exact (show False from q).elim
def gIxN (x y : D) : M D := match x with
  | .dct ks ds => fun _ w => if isKey y = true then (match dgetN ks ds y with
    | some d => .ok d w
    | none => .no) else .no
  | _ => M.no
theorem ok2_ixN : Ok2 (cfg X) (rIxN X) gIxN := by
  intro W σ ρ H ro w d e x y Q hS hd he q
  cases d with
  | dct ks ds =>
    unfold gIxN at q
    by_cases c : isKey e = true
    · simp only [if_pos c] at q
      obtain ⟨a, es, ep, as, vs, rfl, hr, en, nd, rk, r⟩ := hd.dct
      obtain ⟨κ, e1, e2⟩ := isKey_some c
      have hl : ks.length = ds.length := by rw [r.len]; exact en.lens.1
      cases ed : dgetN ks ds e with
      | none => simp only [ed] at q; exact (show False from q).elim
      | some z =>
        simp only [ed] at q
        obtain ⟨v, g1, g2⟩ := (getV_rep hl r).2 z ed
        have A := at_ok hr en nd rk e1 e2 (he.key c)
        rw [g1] at A
        exact ⟨a, v, rfl, A, ok_same hS g2 q⟩
    · simp only [if_neg c] at q
      exact (show False from q).elim
  | _ => exact (show False from q).elim
end
/-- d[k] = v -/
def gPutN (v o k : D) : M D := match o with
  | .ref n => fun ro w => if n < ro.length then .no else match w[n - ro.length]? with
    | some (.dct ks xs) => if isKey k = true ∧ ks.length < sizeLine then .ok .non (w.set (n - ro.length) (dputN ks xs k v)) else .no
    | _ => .no
  | _ => M.no
def cNewN : EF := fun _ => mNew (.dct [] [])
def sPutN (fo fk fv : EF) : SF := sLift fv fun v => sLift fo fun o => sLift fk fun k => sLift (fun _ => gPutN v o k) fun _ env _ w => .go .nx env w
section
variable {C : Cfg} {W : WX} {σ : L2.St} {ρ : Zn} {H : Hp} {ro w : List D} {Q : VK}
theorem ok_newN (hS : RepS C ρ H (ro ++ w)) (h : AfterR C (Rep C) W σ ρ H ro (.ok (.ref (ro ++ w).length) (w ++ [.dct [] []])) Q) : ∀ p, H p = none → Q (.ref p) (upd H p (DNo p [] 0)) := fun p hp =>
  h _ _ _ (ext_mut hS hp) (by rw [← List.append_assoc]; exact reps_mut hS hp ⟨[], 0, [], [], upd_same, .nil, by simp, rfl, rfl⟩)
    ⟨p, by show (ρ.r ++ [p])[_]? = _; rw [← hS.len, List.getElem?_append_right (Nat.le_refl _), Nat.sub_self]; rfl, rfl⟩
end
section
variable {X : Cx} {W : WX} {fo fk fv f : EF} {o i e value : Expr} {p pos pos' apos : Pos}
theorem pf_newN : PE X (.Dict [] [] pos) (tE (cfg X) W cNewN) := pe_imp pe_newN fun σ H Q ⟨ρ, env, ro, w, hS, hE, q⟩ => ok_newN hS q
theorem f_putN (hu : X.A.units + 65 < cLine) (hv : PE X value (tE (cfg X) W fv)) (ho : PE X o (tE (cfg X) W fo)) (hi : PE X i (tE (cfg X) W fk)) (hs : swapsWith value (some (.Subscript o i pos')) pos.line X.env = pure false := by rfl) :
    PS X (.Assign [.Subscript o i pos'] value pos) (tS (cfg X) W (sPutN fo fk fv)) := ps_imp (ps_putN hu ho hi hv hs) fun D σ H ⟨ρ, env, ro, w, hS, hE, q⟩ => by
  refine tS_seq hS hE q fun dv w1 v ρ1 H1 x1 s1 e1 r1 q1 => ?_
  refine tS_seq s1 e1 q1 fun do' w2 vo ρ2 H2 x2 s2 e2 r2 q2 => ?_
  refine tS_seq s2 e2 q2 fun di w3 vi ρ3 H3 x3 s3 e3 r3 q3 => ?_
  have rv := Rep.ext x3 dv (Rep.ext x2 dv r1)
  have ro' := Rep.ext x3 do' r2
  have q4 : AfterR (cfg X) (Rep (cfg X)) W σ ρ3 H3 ro (gPutN dv do' di ro w3) (fun _ H4 => D.nx σ H4) :=
      lift_after (f := fun _ => gPutN dv do' di) e3 q3 fun z w4 v4 ρ4 H4 x4 s4 e4 r4 q4 => q4 σ ρ4 H4 .refl s4 e4
  cases do' with
  | ref n =>
    obtain ⟨a, ha, rfl⟩ := ro'
    by_cases hn : n < ro.length
    · unfold gPutN at q4
      simp only [if_pos hn] at q4
      exact (show False from q4).elim
    · unfold gPutN at q4
      simp only [if_neg hn] at q4
      cases e5 : w3[n - ro.length]? with
      | none => rw [e5] at q4; exact (show False from q4).elim
      | some u =>
        rw [e5] at q4
        cases u with
        | dct ks ds =>
          simp only at q4
          by_cases c : isKey di = true ∧ ks.length < sizeLine
          · rw [if_pos c] at q4
            obtain ⟨κ, hk, hd⟩ := isKey_some c.1
            have hw : (ro ++ w3)[n]? = some (.dct ks ds) := by
              rw [List.getElem?_append_right (by omega)]
              exact e5
            obtain ⟨es, ep, as, vs, g1, en, nd, rk, rd⟩ := s3.obj n a _ ha hw
            refine ⟨a, rfl, fun pins σ' s u r I ru rr => ?_⟩
            obtain ⟨xs, k1, k2, k3, k4, k5, k6⟩ := dct_raw I (.inl g1) en nd rk
            obtain ⟨b, rfl⟩ := key_ref r3 hk
            cases (show u = Value.ref b from ru)
            subst k5
            obtain ⟨ks', ds', vs', m1, m2, m3, m4, m5⟩ := dputN_rep hk hd k1 nd rk rd r3 rv rr
            refine ⟨b, _, xs, rfl, ⟨Rep.nest I di hk r3 ru, hd⟩, k2, k3, by rw [← k1.len]; exact c.2, by rw [g1]; exact True.intro, fun ep' => ?_⟩
            rw [m1] at q4
            exact ok_put (v := .non) (Q := fun _ H4 => D.nx σ H4) s3 hn ha (d := .dct ks' ds') (e := .non) (fun H' x h' => ⟨_, ep', _, vs', h', XR.ents m2, m3, Reps.ext x ks' m4, Reps.ext x ds' m5⟩) rfl q4
          · rw [if_neg c] at q4
            exact (show False from q4).elim
        | _ => exact (show False from q4).elim
  | _ => exact (show False from q4).elim
/-- the keys of a dict that stands still -/
def cSeqN (f : EF) : Env → M (List D) := fun env => M.bind (f env) fun d => match d with
  | .dct ks _ => M.pure ks
  | _ => M.no
theorem ents_at {w : World} {es : List DictEntry} {ks : List D} {as : List Addr} {vs : List V} (en : DEnts w es ks as vs) : ∀ (i : Nat) (k : D), ks[i]? = some k → ∃ e b, es[i]? = some e ∧ e.key = .ref b ∧ as[i]? = some b := by
  induction en with
  | nil => intro i k h; simp at h
  | @cons e k κ a v es ks as vs h1 h2 h3 h4 h5 _ ih =>
    intro i k' h
    cases i with
    | zero => exact ⟨e, a, rfl, h4, rfl⟩
    | succ i => simpa using ih i k' (by simpa using h)
theorem walks_keysN {ρ : Zn} {H : Hp} {a : Addr} {es : List DictEntry} {ep : Nat} {ks : List D} {as : List Addr} {vs : List V} (h : Still ρ H a (DNo a es ep)) (en : DEnts X.w es ks as vs) (rk : Reps (cfg X) ρ H ks (as.map .ref)) : Walks (cfg X) ρ H ks (Itn a es ep) := by
  intro i ρ' H' u x s
  have h' := (Still.extR x h).2
  have rk' := Reps.extR x ks rk
  obtain ⟨l1, l2, l3⟩ := en.lens
  refine ⟨fun d e => ?_, fun e => ⟨h', ?_⟩⟩
  · obtain ⟨en1, b, g1, g2, g3⟩ := ents_at en i d e
    refine ⟨⟨h', en1, b, g1, g2⟩, fun z H2 ⟨e2, en2, b2, k1, k2, k3⟩ => ?_⟩
    subst e2
    rw [g1] at k1
    cases k1
    rw [g2] at k2
    cases k2
    obtain ⟨v, m1, m2⟩ := rk'.get e
    rw [List.getElem?_map, g3] at m1
    cases m1
    rw [k3]
    exact ⟨.refl, s, m2⟩
  · rw [l2]
    exact List.getElem?_eq_none_iff.mp e
theorem pfi_seqN {tg : Expr} (h : PE X e (tE (cfg X) W f)) : PI X tg e (tI (cfg X) W (cSeqN f)) := pi_imp (pi_keysN h) fun σ H R ⟨ρ, env, ro, w, hS, hE, q⟩ => by
  refine tR_seq hS hE q fun d w1 v ρ1 H1 x1 s1 r1 q1 => ?_
  cases d with
  | dct ks ds =>
    obtain ⟨a, es, ep, as, vs, rfl, h, en, nd, rk, r⟩ := r1
    exact ⟨a, es, ep, rfl, h.2, q1 _ ρ1 H1 .refl s1 (walks_keysN h en rk)⟩
  | _ => exact (show False from q1).elim
end
/-! ### sorted -/
abbrev kle : PyData → PyData → Bool := sortLe (listOrd itemOrd) false keyToks
def canSort (ps : List PyData) : Bool := ps.all So.plainD && ps.all (fun d => ps.all fun d' => So.akin d d') && ps.all (fun d => d.canLay0 && decide (d.depth ≤ 64)) && (match ps with
  | [] => true
  | p :: _ => decide (So.firstT p < 4) && ps.all fun d => decide (So.firstT d = So.firstT p))
def sortD (ds : List D) : List D := ds.mergeSort fun d e => kle d.py e.py
theorem canSort_ok {ps : List PyData} (h : canSort ps = true) : So.CanSort ps ∧ (∀ d ∈ ps, d.canLay0 = true) ∧ ∀ d ∈ ps, d.depth ≤ 64 := by
  unfold canSort at h
  simp only [Bool.and_eq_true, List.all_eq_true, decide_eq_true_eq] at h
  obtain ⟨⟨⟨h1, h2⟩, h3⟩, h4⟩ := h
  refine ⟨⟨h1, h2, ?_⟩, fun d hd => (h3 d hd).1, fun d hd => (h3 d hd).2⟩
  cases ps with
  | nil => exact ⟨0, by decide, fun d hd => by cases hd⟩
  | cons p ps =>
    simp only [Bool.and_eq_true, List.all_eq_true, decide_eq_true_eq] at h4
    exact ⟨_, h4.1, h4.2⟩
/-- the items that are sorted, with what they are -/
abbrev sortZ (zs : List (V × PyData)) : List (V × PyData) := zs.mergeSort fun a b => kle a.2 b.2
structure SortZ (K : PySem.W.Frag) (H : Hp) (zs : List (V × PyData)) : Prop where
  dp : ∀ z ∈ zs, Dp K H z.1 z.2
  can : canSort (zs.map (·.2)) = true
  len : zs.length ≤ sizeLine
def rSortN (X : Cx) : List V → Hp → VK → Prop := fun vs H Q => ∃ (a : Addr) (zs : List (V × PyData)), vs = [.ref a] ∧ SortZ X.K H zs ∧ (SqL X.K H a (zs.map (·.1)) ∨ ∃ es ep, Rd H a (DNo a es ep) ∧ EachIs (fun (e : DictEntry) (z : V × PyData) => ∃ b, e.key = .ref b ∧ z.1 = .ref b) es zs) ∧
  ∀ p, H p = none → Q (.ref p) (upd H p (.lst ((sortZ zs).map (·.1))))
theorem each_map {P : Value → PyData → Prop} {us : List Value} {zs : List (V × PyData)} (h : EachIs (fun u z => P u z.2) us zs) : EachIs P us (zs.map (·.2)) := by
  induction h with
  | nil => exact .nil
  | cons h _ ih => exact .cons h ih
theorem each_vals {us : List Value} {zs : List (V × PyData)} (h : EachIs (fun u z => RelV z.1 u) us zs) : Vals (zs.map (·.1)) us := by
  induction h with
  | nil => exact .nil
  | cons h _ ih => exact .cons h ih
theorem vals_each : ∀ {zs : List (V × PyData)} {us : List Value}, Vals (zs.map (·.1)) us → EachIs (fun u z => RelV z.1 u) us zs
  | [], us, h => by cases h; exact .nil
  | z :: zs, us, h => by
    cases h with
    | cons h t => exact .cons h (vals_each t)
section
variable {X : Cx}
theorem sort_core {pins : List (Addr × Obj)} {σ : L2.St} {H : Hp} {s : Shared} (I : Inv X pins σ H s) (hu : X.A.units + 70 < cLine) {zs : List (V × PyData)} {us : List Value} (Z : SortZ X.K H zs) (rv : EachIs (fun u z => RelV z.1 u) us zs) {h : Heap} (hk : ∀ b o, s.heap.get? b = some o → h.get? b = some o) {A : Around} (hA : A.units ≤ X.A.units + 3) {g : Array GenState} {d : Drawn} {tk : Nat} {os : OsState} :
    SortsAt X.prog X.w A ⟨h, g, d, tk, os⟩ (dataKind h (zs.map (·.2))) us ∧ EachIs (fun u z => RelV z.1 u) (sortVals (dataKind h (zs.map (·.2))) false us us) (sortZ zs) := by
  obtain ⟨c1, c2, c3⟩ := canSort_ok Z.can
  have I' : Inv X pins σ H { s with heap := h } := I.kept (t' := s.toks) hk
  have rd : EachIs (fun u z => ∃ as, Reads h u z.2 as) us zs := by
    have : ∀ {us : List Value} {zs : List (V × PyData)}, (∀ z ∈ zs, Dp X.K H z.1 z.2) → EachIs (fun u z => RelV z.1 u) us zs → EachIs (fun u z => ∃ as, Reads h u z.2 as) us zs := by
      intro us zs hz h
      induction h with
      | nil => exact .nil
      | @cons u z us zs h _ ih => exact .cons (Dp.reads I' _ _ _ (hz z List.mem_cons_self) h) (ih fun z' hz' => hz z' (List.mem_cons_of_mem _ hz'))
    exact this Z.dp rv
  have rd2 : EachIs (fun v d => ∃ as, Reads h v d as) us (zs.map (·.2)) := each_map (P := fun v d => ∃ as, Reads h v d as) rd
  refine ⟨So.sorts_akin (s := ⟨h, g, d, tk, os⟩) rd2 c1 c2 fun d hd => ?_, ?_⟩
  · have := c3 d hd
    omega
  · refine sortVals_each (κ := dataKind h (zs.map (·.2))) (rev := false) (fun z => keyToks z.2) rv ?_
    have : ∀ {us : List Value} {ys : List (V × PyData)}, (∀ y ∈ ys, y ∈ zs) → EachIs (fun u z => ∃ as, Reads h u z.2 as) us ys → EachIs (fun v b => (dataKind h (zs.map (·.2))).keyOf v = some (keyToks b.2)) us ys := by
      intro us ys hy h
      induction h with
      | nil => exact .nil
      | @cons u z us ys h _ ih =>
        obtain ⟨as, r⟩ := h
        exact .cons (So.kind_some c1.pl (List.mem_map.mpr ⟨z, hy z List.mem_cons_self, rfl⟩) r) (ih fun y hy' => hy y (List.mem_cons_of_mem _ hy'))
    exact this (fun _ h => h) rd
theorem cr_sortN (hc : X.calm = true) (hu : X.A.units + 70 < cLine) : CallR X (.builtin "sorted") (rSortN X) := by
  intro pins s σ H vs us Q I r h
  obtain ⟨a, zs, rfl, Z, src, q⟩ := h
  rw [Vals.ref1 r]
  have hlen : ((sortZ zs).map (·.1)).length ≤ sizeLine := by
    rw [List.length_map, List.length_mergeSort]
    exact Z.len
  rcases src with hs | ⟨es, ep, hr, he⟩
  · obtain ⟨its, rv, hl, _⟩ := I.list hs
    have ev := vals_each rv
    have hL : its.length ≤ sizeLine := by
      rw [ev.length]
      exact Z.len
    obtain ⟨S, srt⟩ := sort_core I hu Z ev (h := sortingHeap (copyHeap s.heap its) (s.heap.objs.size + 1) its) (fun b o e => sorting_copy_old e) (A := X.A.in1.in1) (by show X.A.units + 1 + 1 ≤ _; omega) (g := s.gens) (d := s.drawn) (tk := s.toks) (os := s.os)
    refine sorted_vals hl.isList S hL ?_
    obtain ⟨ep, he'⟩ := sortedAll_at s.heap its (sortVals (dataKind (sortingHeap (copyHeap s.heap its) (s.heap.objs.size + 1) its) (zs.map (·.2))) false its its).toArray
    exact ⟨.ref _, upd H (s.heap.objs.size + 1) (.lst ((sortZ zs).map (·.1))), I.laid (t' := s.toks) (fun _ _ => sortedAll_old) (Nat.le_succ _) ⟨hlen, _, ep, each_vals srt, he'⟩, rfl, q _ (I.hok.fresh (Nat.le_succ _))⟩
  · obtain ⟨o, h1, h2, h3, h4, h5⟩ := dno_ok I hr
    refine Calls.call_function_entry kind_sorted plain_sorted entry_sorted (args_sorted1 _) ?_
    unfold Builtin.«sorted»
    refine wpAny_bind (m := checkCount "sorted" 1 1 _) (wpAny_pure ?_)
    refine wpAny_bind (kdu_collect (A := X.A.in1) (KdlSrc.rawDict (es := es.toArray) (ep := ep) h5) (I.ok.hd hc) ⟨o, h1, h2, h3⟩ (by simpa using h4) fun h' tk acc hk hacc => ?_)
    have hal : acc.toList.length = es.length := by
      rw [Array.length_toList, hacc.1, List.size_toArray]
    have ev : EachIs (fun u z => RelV z.1 u) acc.toList zs := by
      refine EachIs.of_zip (by rw [hal]; exact he.length) fun p hp => ?_
      obtain ⟨j, hj, ej⟩ := List.mem_iff_getElem.mp hp
      have hj2 : j < acc.toList.length ∧ j < zs.length := by
        rw [List.length_zip] at hj
        omega
      rw [List.getElem_zip] at ej
      subst ej
      obtain ⟨hi, e2⟩ := hacc.2 j acc.toList[j] (by rw [← Array.getElem?_toList]; exact List.getElem?_eq_getElem hj2.1)
      have hi' : j < es.length := by simpa using hi
      obtain ⟨b, g1, g2⟩ := he.zip (es[j], zs[j]) (by
        refine List.mem_iff_getElem.mpr ⟨j, by rw [List.length_zip]; omega, ?_⟩
        rw [List.getElem_zip])
      have e3 : acc.toList[j] = es[j].key := by simpa using e2
      show RelV zs[j].1 acc.toList[j]
      rw [e3]
      simp only at g1 g2
      rw [g1, g2]
      rfl
    have hL : acc.toList.length ≤ sizeLine := by
      rw [hal]
      exact h4
    refine wpAny_bind (wpAny_newList ?_ hL)
    have I1 : Inv X pins σ H { s with heap := h', toks := tk } := I.kept hk
    have hoL : (h'.push (seqObj "list" acc.toList.toArray 0)).get? h'.objs.size = some (seqObj "list" acc.toList.toArray 0) := Heap.get?_push_size _ rfl
    obtain ⟨S, srt⟩ := sort_core I hu Z ev (h := sortingHeap (h'.push (seqObj "list" acc.toList.toArray 0)) h'.objs.size acc.toList) (fun b o e => sortingHeap_old (Nat.ne_of_lt (Heap.lt_size (hk b o e))) (Heap.get?_push_of_some _ (hk b o e))) (A := X.A.in1.in1) (by show X.A.units + 1 + 1 ≤ _; omega) (g := s.gens) (d := s.drawn) (tk := tk) (os := s.os)
    show wpAny _ _ _ _ _ { s with heap := h'.push (seqObj "list" acc.toList.toArray 0), toks := tk }
    refine wpAny_bind (wpAny_holding (wpAny_call_entry slot_list_sort ⟨_, hoL, rfl⟩ entry_list_sort
      (list_sort_vals (s := { s with heap := h'.push (seqObj "list" acc.toList.toArray 0), toks := tk }) hoL S hL ⟨_, rfl, ?_⟩) (args_list_sort _)))
    obtain ⟨e', he'⟩ := sortedHeap_at (vs := acc.toList) (out := (sortVals (dataKind (sortingHeap (h'.push (seqObj "list" acc.toList.toArray 0)) h'.objs.size acc.toList) (zs.map (·.2))) false acc.toList acc.toList).toArray) hoL
    refine wpAny_pure ⟨_, rfl, .ref h'.objs.size, upd H h'.objs.size (.lst ((sortZ zs).map (·.1))), I1.laid (t' := tk) (fun b u e => ?_) (Nat.le_refl _) ⟨hlen, _, e', each_vals srt, he'⟩, rfl, q _ (I1.hok.fresh (Nat.le_refl _))⟩
    rw [sortedHeap_old (Nat.ne_of_lt (Heap.lt_size e)) (by rw [size_push']; exact Nat.lt_succ_of_lt (Heap.lt_size e))]
    exact Heap.get?_push_of_some _ e
end
/-- sorted: of a list, of the keys of a dict -/
def sortI (d : D) : Option (List D) := match d with
  | .lst ds => if (D.flats ds && canSort (D.pys ds) && decide (ds.length ≤ sizeLine)) = true then some (sortD ds) else none
  | .dct ks _ => if (D.flats ks && canSort (D.pys ks) && decide (ks.length ≤ sizeLine)) = true then some (sortD ks) else none
  | _ => none
def gSorted (d : D) : M D := fun _ w => match sortI d with
  | some ds => .ok (.lst ds) w
  | none => .no
def gSortedM (d : D) : M D := match sortI d with
  | some ds => mNew (.lst ds)
  | none => M.no
section
variable {C : Cfg} {ρ : Zn} {H : Hp}
theorem pys_map : ∀ ds : List D, D.pys ds = ds.map D.py
  | [] => rfl
  | d :: ds => by simp only [D.pys, List.map_cons, pys_map ds]
theorem reps_pairs : ∀ {qs : List (D × V)}, (∀ q ∈ qs, Rep C ρ H q.1 q.2) → Reps C ρ H (qs.map (·.1)) (qs.map (·.2))
  | [], _ => rfl
  | q :: qs, h => ⟨q.2, _, rfl, h q List.mem_cons_self, reps_pairs fun q hq => h q (List.mem_cons_of_mem _ hq)⟩
theorem reps_zip : ∀ {ds : List D} {vs : List V}, Reps C ρ H ds vs → (∀ q ∈ ds.zip vs, Rep C ρ H q.1 q.2) ∧ (ds.zip vs).map (·.1) = ds ∧ (ds.zip vs).map (·.2) = vs
  | [], vs, h => by
    cases (show vs = [] from h)
    exact ⟨fun q hq => (by cases hq), rfl, rfl⟩
  | d :: ds, _, ⟨v, r, e, h1, h2⟩ => by
    subst e
    obtain ⟨a, b, c⟩ := reps_zip h2
    refine ⟨fun q hq => ?_, by simp only [List.zip_cons_cons, List.map_cons, b], by simp only [List.zip_cons_cons, List.map_cons, c]⟩
    rcases List.mem_cons.mp hq with e | hq
    · rw [e]
      exact h1
    · exact a q hq
/-- what is seen, with what it is -/
abbrev zsOf (ds : List D) (vs : List V) : List (V × PyData) := (ds.zip vs).map fun q => (q.2, q.1.py)
theorem reps_sort {ds : List D} {vs : List V} (r : Reps C ρ H ds vs) : Reps C ρ H (sortD ds) ((sortZ (zsOf ds vs)).map (·.1)) := by
  obtain ⟨h1, h2, h3⟩ := reps_zip r
  have e1 : sortZ (zsOf ds vs) = ((ds.zip vs).mergeSort fun a b => kle a.1.py b.1.py).map fun q => (q.2, q.1.py) := (sort_maps (s := fun a b => kle a.2 b.2) (fun q : D × V => (q.2, q.1.py)) fun a _ b _ => rfl).symm
  have e2 : sortD ds = ((ds.zip vs).mergeSort fun a b => kle a.1.py b.1.py).map (·.1) := by
    unfold sortD
    rw [sort_maps (s := fun d e => kle d.py e.py) (fun q : D × V => q.1) fun a _ b _ => rfl, h2]
  rw [e1, e2, List.map_map]
  exact reps_pairs fun q hq => h1 q ((List.mergeSort_perm _ _).mem_iff.mp hq)
theorem flats_mem {ds : List D} (h : D.flats ds = true) : ∀ d ∈ ds, d.flat = true := flats_iff.mp h
theorem sortZ_ok {ds : List D} {vs : List V} (r : Reps C ρ H ds vs) (h : (D.flats ds && canSort (D.pys ds) && decide (ds.length ≤ sizeLine)) = true) : SortZ C.K H (zsOf ds vs) ∧ (zsOf ds vs).map (·.1) = vs := by
  simp only [Bool.and_eq_true, decide_eq_true_eq] at h
  obtain ⟨⟨h1, h2⟩, h3⟩ := h
  obtain ⟨g1, g2, g3⟩ := reps_zip r
  refine ⟨⟨fun z hz => ?_, ?_, ?_⟩, ?_⟩
  · obtain ⟨q, hq, rfl⟩ := List.mem_map.mp hz
    have hm : q.1 ∈ ds := by
      rw [← g2]
      exact List.mem_map.mpr ⟨q, hq, rfl⟩
    exact Rep.dp q.1 (flats_mem h1 _ hm) (g1 q hq)
  · have e : (zsOf ds vs).map (·.2) = D.pys ds := by
      rw [List.map_map, pys_map]
      conv => rhs; rw [← g2]
      rw [List.map_map]
      rfl
    rw [e]
    exact h2
  · rw [List.length_map, List.length_zip, r.len, Nat.min_self, ← r.len]
    exact h3
  · rw [List.map_map]
    exact g3
end
section
variable {X : Cx}
theorem sort_src {ρ : Zn} {H : Hp} {d : D} {x : V} {ds : List D} {Q : VK} (hd : Seen (cfg X) ρ H d x) (h : sortI d = some ds) (k : ∀ ys, Reps (cfg X) ρ H ds ys → ∀ p, H p = none → Q (.ref p) (upd H p (.lst ys))) : rSortN X [x] H Q := by
  cases d with
  | lst es =>
    unfold sortI at h
    by_cases c : (D.flats es && canSort (D.pys es) && decide (es.length ≤ sizeLine)) = true
    · simp only [if_pos c, Option.some.injEq] at h
      subst h
      obtain ⟨a, vs, rfl, hs, r⟩ := hd.lst
      obtain ⟨Z, e⟩ := sortZ_ok r c
      exact ⟨a, _, rfl, Z, .inl (by rw [e]; exact hs), k _ (reps_sort r)⟩
    · simp only [if_neg c] at h
      cases h
  | dct ks xs =>
    unfold sortI at h
    by_cases c : (D.flats ks && canSort (D.pys ks) && decide (ks.length ≤ sizeLine)) = true
    · simp only [if_pos c, Option.some.injEq] at h
      subst h
      obtain ⟨a, es, ep, as, vs, rfl, hr, en, nd, rk, r⟩ := hd.dct
      obtain ⟨Z, e⟩ := sortZ_ok rk c
      refine ⟨a, _, rfl, Z, .inr ⟨es, ep, hr, ?_⟩, k _ (reps_sort rk)⟩
      obtain ⟨l1, l2, l3⟩ := en.lens
      have lz : (zsOf ks (as.map .ref)).length = ks.length := by
        rw [List.length_map, List.length_zip, List.length_map, l3, Nat.min_self]
      refine EachIs.of_zip (by rw [lz]; exact l2) fun p hp => ?_
      obtain ⟨j, hj, ej⟩ := List.mem_iff_getElem.mp hp
      rw [List.length_zip, lz, l2, Nat.min_self] at hj
      rw [List.getElem_zip] at ej
      subst ej
      obtain ⟨e1, b, g1, g2, g3⟩ := ents_at en j ks[j] (List.getElem?_eq_getElem hj)
      have g1' : es[j]'(by omega) = e1 := by
        rw [List.getElem?_eq_getElem (by omega)] at g1
        exact Option.some.inj g1
      have g3' : as[j]'(by omega) = b := by
        rw [List.getElem?_eq_getElem (by omega)] at g3
        exact Option.some.inj g3
      refine ⟨b, by show (es[j]'(by omega)).key = _; rw [g1']; exact g2, ?_⟩
      simp only [zsOf, List.getElem_map, List.getElem_zip]
      rw [g3']
    · simp only [if_neg c] at h
      cases h
  | _ => cases h
theorem ok_sorted : Ok1 (cfg X) (rSortN X) gSorted := by
  intro W σ ρ H ro w d x Q hS hd q
  unfold gSorted at q
  cases e : sortI d with
  | none => rw [e] at q; exact (show False from q).elim
  | some ds =>
    rw [e] at q
    exact sort_src hd e fun ys r => ok_lst hS r q
theorem ok_sortedM : Ok1 (cfg X) (rSortN X) gSortedM := by
  intro W σ ρ H ro w d x Q hS hd q
  unfold gSortedM at q
  cases e : sortI d with
  | none => rw [e] at q; exact (show False from q).elim
  | some ds =>
    rw [e] at q
    exact sort_src hd e fun ys r => ok_newL hS r q
theorem hu70 {k : Nat} {A : Around} (r : Room k A) : A.units + 70 < cLine := by
  have := r.un
  omega
end
section
variable {fo fk fv : EF} {env : Env} {ro w : List D}
@[simp] theorem x_newN : cNewN env ro w = .ok (.ref (ro.length + w.length)) (w ++ [.dct [] []]) := by
  show mNew _ ro w = _
  simp
@[simp] theorem x_putN : sPutN fo fk fv env ro w = (fv env ro w).st env fun v w1 => (fo env ro w1).st env fun o w2 => (fk env ro w2).st env fun k w3 => (gPutN v o k ro w3).st env fun _ w4 => .go .nx env w4 := by
  refine x_lift.trans (congrArg _ ?_)
  funext v w1
  refine x_lift.trans (congrArg _ ?_)
  funext o w2
  refine x_lift.trans (congrArg _ ?_)
  funext i w3
  exact x_lift
theorem inN_eq {b : Bool} {k : D} {ks xs : List D} (h : isKey k = true) : gInN b k (.dct ks xs) ro w = .ok (.bl (if b = true then !dhasN ks k else dhasN ks k)) w := by
  unfold gInN
  simp [h]
theorem ixN_eq {k d : D} {ks xs : List D} (h : isKey k = true) (e : dgetN ks xs k = some d) : gIxN (.dct ks xs) k ro w = .ok d w := by
  unfold gIxN
  simp [h, e]
theorem putN_at {n : Nat} {v k : D} {ks xs : List D} (hn : ro.length ≤ n) (h : w[n - ro.length]? = some (.dct ks xs)) (hk : isKey k = true) (hl : ks.length < sizeLine) : gPutN v (.ref n) k ro w = .ok .non (w.set (n - ro.length) (dputN ks xs k v)) := by
  unfold gPutN
  simp [Nat.not_lt.mpr hn, h, hk, hl]
theorem sorted_eq {d : D} {ds : List D} (h : sortI d = some ds) : gSorted d ro w = .ok (.lst ds) w := by
  unfold gSorted
  rw [h]
theorem sortedM_eq {d : D} {ds : List D} (h : sortI d = some ds) : gSortedM d ro w = .ok (.ref (ro.length + w.length)) (w ++ [.lst ds]) := by
  unfold gSortedM
  rw [h]
  simp
end
end Fx
/-! zip, min, abs, join, dicts written out. -/
namespace Fx
open PySem PySem.Spec L2 PyProof.Rows
/-! ### zip of two lists -/
def zipD (ds es : List D) : List D := (ds.zip es).map fun q => .tup [q.1, q.2]
def gZip : List D → M (List D)
  | [.lst ds, .lst es] => M.pure (zipD ds es)
  | _ => M.no
def cZip (fs : Env → M (List D)) : Env → M (List D) := fun env => M.bind (fs env) gZip
theorem walks_zip {K : PySem.W.Frag} {mg : Str → Option Value} {w : World} {ρ : Zn} {H : Hp} {ds es : List D} {a b : Addr} {vs us : List V} (h : Still ρ H a (.lst vs) ∨ KL K a vs) (h' : Still ρ H b (.lst us) ∨ KL K b us) (r : Reps ⟨K, mg, w⟩ ρ H ds vs) (r' : Reps ⟨K, mg, w⟩ ρ H es us) :
    Walks ⟨K, mg, w⟩ ρ H (zipD ds es) (Itz K a b) := by
  intro i ρ' H' u x s
  have g : SqL K H' a vs := h.elim (fun h => .inl (Still.extR x h).2) .inr
  have g' : SqL K H' b us := h'.elim (fun h => .inl (Still.extR x h).2) .inr
  have k := Reps.extR x ds r
  have k' := Reps.extR x es r'
  refine ⟨fun d e => ?_, fun e => ⟨vs, us, g, g', ?_⟩⟩
  · unfold zipD at e
    rw [List.getElem?_map] at e
    cases eq : (ds.zip es)[i]? with
    | none => rw [eq] at e; cases e
    | some q =>
      rw [eq] at e
      cases e
      obtain ⟨e1, e2⟩ := List.getElem?_zip_eq_some.mp eq
      obtain ⟨y, y1, y2⟩ := k.get e1
      obtain ⟨z, z1, z2⟩ := k'.get e2
      refine ⟨⟨vs, us, y, z, g, g', y1, z1⟩, fun v H2 ⟨T, p, q', e3, e4, e5, e6, e7⟩ => ?_⟩
      have p1 := e6 vs g
      rw [y1] at p1
      cases p1
      have p2 := e7 us g'
      rw [z1] at p2
      cases p2
      subst e3 e5
      exact ⟨ext_new s e4, reps_new s e4, T, _, rfl, .inl ⟨s.fresh e4, .inl upd_same⟩, _, _, rfl, Rep.ext (ext_new s e4) _ y2, _, _, rfl, Rep.ext (ext_new s e4) _ z2, rfl⟩
  · have := List.getElem?_eq_none_iff.mp e
    unfold zipD at this
    rw [List.length_map, List.length_zip, r.len, r'.len] at this
    omega
section
variable {X : Cx} {W : WX} {pos p tpos apos : Pos} {a b e o : Expr} {es elts : List Expr} {kk : Nat} {fs : Env → M (List D)} {f fo : EF}
theorem pfi_zip (hg : Gl X "zip") (hm : X.mg "zip" = none) (ha : PA X [a, b] (tA (cfg X) W fs)) (hs : starEach [a, b] X.env = (false, eval a X.env) :: starEach [b] X.env := by rfl) (hpl : (backTo pos (starEach [b] X.env)).any (·.1) = false := by rfl) :
    PI X (.Tuple elts kk tpos) (.Call (.Name "zip" p) [a, b] [] pos) (tI (cfg X) W (cZip fs)) := pi_imp (pi_zip hg hm ha hs hpl) fun σ H R ⟨ρ, env, ro, w, hS, hE, q⟩ => by
  refine tR_seq hS hE q fun ds w1 vs ρ1 H1 x1 s1 r1 q1 => ?_
  unfold gZip at q1
  split at q1
  · obtain ⟨v, r', e1, ⟨a, us, e2, hst, hr⟩, v2, r2, e3, ⟨b, us2, e4, hst2, hr2⟩, e5⟩ := r1
    cases (show r2 = [] from e5)
    subst e1 e2 e3 e4
    exact ⟨a, b, us, us2, rfl, Still.sqL hst, Still.sqL hst2, q1 _ ρ1 H1 .refl s1 (walks_zip hst hst2 hr hr2)⟩
  · exact (show False from q1).elim
/-! ### min, abs -/
def rMin2 : List V → Hp → VK → Prop := fun xs H Q => ∃ i j, xs = [.int i, .int j] ∧ Q (.int (if j < i then j else i)) H
theorem cr_min2 (hc : X.calm = true) : CallR X (.builtin "min") rMin2 := call_min2 hc
def gMin2 : List D → M D
  | [.int i, .int j] => M.pure (.int (if j < i then j else i))
  | _ => M.no
theorem ok_min2 {C : Cfg} : OkL C rMin2 gMin2 := by
  intro W σ ρ H ro w ds xs Q hS hR q
  unfold gMin2 at q
  split at q
  · obtain ⟨vr, rfl, e3⟩ := int_of hR
    obtain ⟨vr', rfl, e4⟩ := int_of e3
    cases (show vr' = [] from e4)
    exact ⟨_, _, rfl, ok_int hS q⟩
  · exact (show False from q).elim
def rAbs : List V → Hp → VK → Prop := fun xs H Q => ∃ i, xs = [.int i] ∧ Q (.int (if i < 0 then -i else i)) H
theorem cf_abs : CallR X (.builtin "abs") rAbs := call_abs
def gAbs : D → M D
  | .int i => M.pure (.int i.natAbs)
  | _ => M.no
theorem ok_abs {C : Cfg} : Ok1 C rAbs gAbs := by
  intro W σ ρ H ro w d x Q hS hd q
  cases d with
  | int i =>
    refine ⟨i, by rw [hd.int], ?_⟩
    have e : (if i < 0 then -i else i) = (i.natAbs : Int) := by
      split <;> omega
    rw [e]
    exact ok_int hS q
  | _ => exact (show False from q).elim
/-! ### join -/
def D.str? : D → Option Str
  | .str x => some x
  | _ => none
def strs? : List D → Option (List Str)
  | [] => some []
  | d :: ds => match d.str?, strs? ds with
    | some x, some xs => some (x :: xs)
    | _, _ => none
theorem strs_ok : ∀ {ds : List D} {ys : List Str}, strs? ds = some ys → ds = ys.map .str
  | [], ys, h => by cases h; rfl
  | d :: ds, ys, h => by
    unfold strs? at h
    cases e1 : d.str? with
    | none => simp only [e1] at h; cases h
    | some x =>
      cases e2 : strs? ds with
      | none => simp only [e1, e2] at h; cases h
      | some xs =>
        simp only [e1, e2] at h
        cases h
        rw [List.map_cons, ← strs_ok e2]
        cases d with
        | str y => cases e1; rfl
        | _ => cases e1
theorem strs_map : ∀ ys : List Str, strs? (ys.map .str) = some ys
  | [] => rfl
  | y :: ys => by
    unfold strs?
    rw [List.map_cons]
    simp only [D.str?, strs_map ys]
theorem reps_str {C : Cfg} {ρ : Zn} {H : Hp} : ∀ {ys : List Str} {vs : List V}, Reps C ρ H (ys.map .str) vs → vs = ys.map .str
  | [], vs, h => h
  | y :: ys, vs, ⟨v, r, e, h1, h2⟩ => by rw [e, show v = .str y from h1, reps_str h2]; rfl
def gJoin (x : Str) (d : D) : M D := match d with
  | .lst ds => fun _ w => (match strs? ds with
    | some ys => if (ys.map (·.length)).sum + ys.length * x.length ≤ 16777216 then .ok (.str (Txt.join x ys)) w else .no
    | none => .no)
  | _ => M.no
def cJoin (fo f : EF) : EF := fun env => M.bind (fo env) fun o => match o with
  | .str x => M.bind (f env) fun d => M.bind (M.see d) fun d => gJoin x d
  | _ => M.no
theorem pf_join (ho : PE X o (tE (cfg X) W fo)) (he : PE X e (tE (cfg X) W f)) (hs : starEach [e] X.env = [(false, eval e X.env)] := by rfl) (hbase : attributeBase o "join" X.env (eval o X.env) = eval o X.env := by rfl) (hline : (apos.endLine == pos.line) = true := by rfl) :
    PE X (.Call (.Attribute o "join" apos) [e] [] pos) (tE (cfg X) W (cJoin fo f)) := pe_imp (pe_join ho he hs hbase hline) fun σ H Q ⟨ρ, env, ro, w, hS, hE, q⟩ => by
  refine tR_seq hS hE q fun d w1 v ρ1 H1 x1 s1 r1 q1 => ?_
  cases d with
  | str x =>
    cases (show v = .str x from r1)
    refine ⟨⟨x, rfl⟩, tR_seq s1 (hE.ext x1) q1 fun d w2 u ρ2 H2 x2 s2 r2 q2 => ?_⟩
    have sd := seen_of s2 r2
    have q3 : AfterR (cfg X) (Rep (cfg X)) W σ ρ2 H2 ro (gJoin x (see ro w2 d) ro w2) Q := q2
    generalize see ro w2 d = d' at sd q3
    cases d' with
    | lst ds =>
      unfold gJoin at q3
      cases e1 : strs? ds with
      | none => simp only [e1] at q3; exact (show False from q3).elim
      | some ys =>
        simp only [e1] at q3
        by_cases c : (ys.map (·.length)).sum + ys.length * x.length ≤ 16777216
        · rw [if_pos c] at q3
          obtain ⟨a, vs, rfl, hs, r⟩ := sd.lst
          rw [strs_ok e1] at r
          rw [reps_str r] at hs
          exact ⟨x, a, ys, rfl, rfl, .inl hs, c, ok_str s2 q3⟩
        · rw [if_neg c] at q3
          exact (show False from q3).elim
    | _ => exact (show False from q3).elim
  | _ => exact (show False from q1).elim
end
/-! ### {k: v, ..} -/
def cPairs : List (EF × EF) → Env → M (List (D × D))
  | [], _ => M.pure []
  | (k, v) :: r, env => M.bind (k env) fun x => M.bind (v env) fun y => M.bind (cPairs r env) fun ps => M.pure ((x, y) :: ps)
def putD (d : D) (kv : D × D) : D := match d with
  | .dic ks xs => dput ks xs kv.1 kv.2
  | d => d
def gDisp (ps : List (D × D)) : M D := fun _ w => if (ps.all fun kv => (keyOf kv.1).isSome) = true ∧ ps.length ≤ 15 then .ok (ps.foldl putD (.dic [] [])) w else .no
def cDisp (ps : List (EF × EF)) : EF := fun env => M.bind (cPairs ps env) gDisp
abbrev RPs (C : Cfg) : Zn → Hp → List (D × D) → List (V × V) → Prop := fun ρ H ps vs => Reps C ρ H (ps.map (·.1)) (vs.map (·.1)) ∧ Reps C ρ H (ps.map (·.2)) (vs.map (·.2))
theorem rps_ext {C : Cfg} {ρ ρ' : Zn} {H H' : Hp} (x : Ext ρ ρ' H H') {ps : List (D × D)} {vs : List (V × V)} (h : RPs C ρ H ps vs) : RPs C ρ' H' ps vs := ⟨Reps.ext x _ h.1, Reps.ext x _ h.2⟩
theorem tE_pairs {C : Cfg} {W : WX} : ∀ (ps : List (EF × EF)) {σ : L2.St} {H : Hp} {Q : List (V × V) → Hp → Prop}, tR C (RPs C) W (cPairs ps) σ H Q → tPairs (ps.map fun q => (tE C W q.1, tE C W q.2)) σ H Q
  | [], σ, H, Q, ⟨ρ, env, ro, w, hS, hE, q⟩ => q [] ρ H .refl hS ⟨rfl, rfl⟩
  | (k, v) :: r, σ, H, Q, ⟨ρ, env, ro, w, hS, hE, q⟩ => by
    refine tR_seq hS hE q fun dk w1 vk ρ1 H1 x1 s1 r1 q1 => ?_
    refine tR_seq s1 (hE.ext x1) q1 fun dv w2 vv ρ2 H2 x2 s2 r2 q2 => ?_
    refine tE_pairs r ?_
    refine tR_seq s2 ((hE.ext x1).ext x2) q2 fun ds w3 vs ρ3 H3 x3 s3 r3 q3 => ?_
    exact q3 _ ρ3 H3 .refl s3 ⟨⟨_, _, rfl, Rep.ext x3 dk (Rep.ext x2 dk r1), r3.1⟩, _, _, rfl, Rep.ext x3 dv r2, r3.2⟩
theorem disp_keys {C : Cfg} {ρ : Zn} {H : Hp} : ∀ {ps : List (D × D)} {vs : List (V × V)}, (ps.all fun kv => (keyOf kv.1).isSome) = true → RPs C ρ H ps vs → ∃ kvs : List (Key × V), vs = kvs.map (fun kv => (kV kv.1, kv.2)) ∧ ps.map (fun kv => keyOf kv.1) = kvs.map (fun kv => some kv.1) ∧ Reps C ρ H (ps.map (·.2)) (kvs.map (·.2))
  | [], vs, _, h => by
    have e : vs = [] := by simpa [Reps] using h.1
    subst e
    exact ⟨[], rfl, rfl, rfl⟩
  | p :: ps, vs, hk, ⟨⟨y, r, e1, h1, h2⟩, z, r', e2, g1, g2⟩ => by
    cases vs with
    | nil => simp at e1
    | cons v vs =>
      simp only [List.map_cons, List.cons.injEq] at e1 e2
      obtain ⟨e1, e1'⟩ := e1
      obtain ⟨e2, e2'⟩ := e2
      subst e1 e1' e2 e2'
      rw [List.all_cons, Bool.and_eq_true] at hk
      obtain ⟨kvs, k1, k2, k3⟩ := disp_keys hk.2 ⟨h2, g2⟩
      obtain ⟨κ, e⟩ := keySome hk.1
      refine ⟨(κ, v.2) :: kvs, ?_, by simp only [List.map_cons, e, k2], v.2, _, rfl, g1, k3⟩
      rw [k1, List.map_cons]
      congr 1
      rw [← key_rep e h1]
theorem disp_rep {C : Cfg} {ρ : Zn} {H : Hp} : ∀ {ps : List (D × D)} {kvs : List (Key × V)} {d : D} {acc : List (Key × V)}, ps.map (fun kv => keyOf kv.1) = kvs.map (fun kv => some kv.1) → Reps C ρ H (ps.map (·.2)) (kvs.map (·.2)) → RepD C ρ H d acc → RepD C ρ H (ps.foldl putD d) (mergeK acc kvs)
  | [], kvs, d, acc, h1, _, h => by
    have e : kvs = [] := by simpa using h1.symm
    subst e
    exact h
  | p :: ps, kvs, d, acc, h1, h2, h => by
    cases kvs with
    | nil => simp at h1
    | cons kv kvs =>
      obtain ⟨v, r, e, g1, g2⟩ := h2
      simp only [List.map_cons, List.cons.injEq] at h1 e
      obtain ⟨e1, e2⟩ := e
      subst e1 e2
      obtain ⟨ks, xs, rfl, k1, k2⟩ := h
      show RepD C ρ H (ps.foldl putD (putD (.dic ks xs) p)) (mergeK (putK acc kv.1 kv.2) kvs)
      exact disp_rep (ps := ps) h1.2 g2 (dput_rep h1.1 g1 k1 k2)
section
variable {X : Cx} {W : WX} {pos : Pos} {keys : List (Option Expr)} {values : List Expr} {k v : Expr} {ps : List (EF × EF)} {fk fv : EF}
theorem pps_n : PPs X pos [] [] (([] : List (EF × EF)).map fun q => (tE (cfg X) W q.1, tE (cfg X) W q.2)) := pps_nil
theorem pps_c (hk : PE X k (tE (cfg X) W fk)) (hv : PE X v (tE (cfg X) W fv)) (hr : PPs X pos keys values (ps.map fun q => (tE (cfg X) W q.1, tE (cfg X) W q.2))) : PPs X pos (some k :: keys) (v :: values) (((fk, fv) :: ps).map fun q => (tE (cfg X) W q.1, tE (cfg X) W q.2)) := pps_cons hk hv hr
theorem pf_disp (h : PPs X pos keys values (ps.map fun q => (tE (cfg X) W q.1, tE (cfg X) W q.2))) (hall : keys.all (·.isSome) = true := by rfl) (hl : keys.length = values.length := by rfl) (h0 : keys ≠ [] := by exact fun z => nomatch z) (h15 : keys.length ≤ 15 := by exact Nat.le_of_ble_eq_true rfl) :
    PE X (.Dict keys values pos) (tE (cfg X) W (cDisp ps)) := pe_imp (pe_disp h hall hl h0 h15) fun σ H Q ⟨ρ, env, ro, w, hS, hE, q⟩ => by
  intro p hp
  obtain ⟨xh, sh⟩ := hide_new (o := .dK []) hS hp
  refine tE_pairs ps ?_
  refine ⟨ρ.hide p, env, ro, w, sh, hE.extR xh, ?_⟩
  replace q : AfterR (cfg X) (Rep (cfg X)) W σ ρ H ro (M.bind (cPairs ps env) gDisp ro w) Q := q
  unfold M.bind at q
  have out : ∀ {ρ' : Zn} {H' : Hp}, Ext (ρ.hide p) ρ' (upd H p (.dK [])) H' → H' p = some (.dK []) ∧ ρ'.h = p :: ρ.h ∧ Ext ρ ⟨ρ'.r, ρ.h⟩ H H' := fun {ρ' H'} x => by
    have hh : ρ'.h = p :: ρ.h := x.hid
    refine ⟨by rw [x.same p List.mem_cons_self]; exact upd_same, hh, ?_⟩
    have xo : Ext ρ ⟨(ρ.hide p).r, ρ.h⟩ H (upd H p (.dK [])) := ext_new hS hp
    exact ext_out xo rfl hp x
  cases ep : cPairs ps env ro w with
  | no => rw [ep] at q; exact q
  | exn c ns xs w1 =>
    rw [ep] at q
    intro cls dx ρ' H' x s hX
    obtain ⟨o1, o2, o3⟩ := out x
    obtain ⟨xe, se⟩ := hide_end s o2
    refine q cls dx _ H' o3 se ?_
    obtain ⟨A, g1, g2, g3⟩ := hX
    refine ⟨A, g1, g2, ?_⟩
    rcases g3 with g3 | ⟨d, fs, k1, k2, k3, k4, k5, k6⟩
    · exact .inl g3
    · exact .inr ⟨d, fs, k1, k2, (xe.keep _ _ k4 k3).2, k4, k5, Reps.extR xe _ k6⟩
  | ok kvd w1 =>
    rw [ep] at q
    simp only at q
    unfold gDisp at q
    by_cases c : (kvd.all fun kv => (keyOf kv.1).isSome) = true ∧ kvd.length ≤ 15
    · rw [if_pos c] at q
      intro vs ρ' H' x s r
      obtain ⟨o1, o2, o3⟩ := out x
      obtain ⟨kvs, k1, k2, k3⟩ := disp_keys c.1 r
      refine ⟨o1, kvs, k1, by rw [← map_len (f := keyOf) (ks := kvd.map (·.1)) (g := fun kv : Key × V => some kv.1) (by rw [List.map_map]; exact k2), List.length_map]; exact c.2, ?_⟩
      have pm : p ∈ ρ'.h := by rw [o2]; exact List.mem_cons_self
      obtain ⟨xp, sp⟩ := hide_put (o := .dK (mergeK [] kvs)) s pm
      obtain ⟨xe, se⟩ := hide_end sp o2
      obtain ⟨ks, xs, e, m1, m2⟩ := disp_rep (d := .dic [] []) (acc := []) k2 k3 ⟨[], [], rfl, rfl, rfl⟩
      rw [e] at q
      refine q (.ref p) ⟨ρ'.r, ρ.h⟩ _ (ext_upd o3 hp (hS.fresh hp).2) se ⟨p, _, rfl, ⟨⟨(s.hid p pm).1, (hS.fresh hp).2⟩, .inl upd_same⟩, m1, Reps.extR xe _ (Reps.extR xp _ m2)⟩
    · rw [if_neg c] at q
      exact (show False from q).elim
end
section
variable {env : Env} {ro w : List D} {f fo fk fv : EF} {fs : Env → M (List D)} {i j : Int}
@[simp] theorem x_zip : cZip fs env ro w = (fs env ro w).an fun ds w1 => gZip ds ro w1 := by
  show M.bind (fs env) _ ro w = _
  simp
@[simp] theorem zip_lst {ds es : List D} : gZip [.lst ds, .lst es] ro w = .ok (zipD ds es) w := rfl
@[simp] theorem min_int : gMin2 [.int i, .int j] ro w = .ok (.int (if j < i then j else i)) w := rfl
@[simp] theorem abs_int : gAbs (.int i) ro w = .ok (.int i.natAbs) w := rfl
theorem x_join {x : Str} (h : fo env ro w = .ok (.str x) w) : cJoin fo f env ro w = (f env ro w).an fun d w1 => gJoin x (see ro w1 d) ro w1 := by
  show M.bind (fo env) _ ro w = _
  rw [x_bind, h, an_ok]
  simp
theorem join_lst {x : Str} {ys : List Str} (h : (ys.map (·.length)).sum + ys.length * x.length ≤ 16777216) : gJoin x (.lst (ys.map .str)) ro w = .ok (.str (Txt.join x ys)) w := by
  unfold gJoin
  simp only [strs_map, if_pos h]
@[simp] theorem x_disp1 : cDisp [(fk, fv)] env ro w = (fk env ro w).an fun k w1 => (fv env ro w1).an fun v w2 => if (keyOf k).isSome = true then .ok (.dic [k] [v]) w2 else .no := by
  show M.bind (cPairs [(fk, fv)] env) gDisp ro w = _
  unfold cPairs
  simp only [x_bind]
  cases fk env ro w with
  | ok k w1 =>
    simp only [an_ok]
    cases fv env ro w1 with
    | ok v w2 =>
      simp only [an_ok]
      unfold cPairs gDisp
      simp [putD, dput, dhas]
    | _ => rfl
  | _ => rfl
end
section
variable {X : Cx} {W : WX} {pos : Pos} {a b : Expr} {fa fb : EF}
theorem pf_ixN (hu : X.A.units + 65 < cLine) (ha : PE X a (tE (cfg X) W fa)) (hb : PE X b (tE (cfg X) W fb)) (hs : PlainIx b) : PE X (.Subscript a b pos) (tE (cfg X) W (cBin gIxN fa fb)) := pe_imp (pe_ix (ix_N hu) ha hb hs) fun _ _ _ q => tE_bin ok2_ixN q
end
end Fx
/-! A call whose things end with it; a changing list compared with a list. -/
namespace Fx
open PySem PySem.Spec L2
theorem pure_call {P : Program} {w : World} {K : PySem.W.Frag} {mg : Str → Option Value} {base : Heap} {n np : Nat} {x : Str} {g : List D → M D} (h : CallOk P w K mg base n x g np) : CallOk P w K mg base n x (pureD g) np := by
  obtain ⟨a, fd, ps, h1, h2, h3, h4, h5⟩ := h.ex
  exact ⟨a, fd, ps, h1, h2, h3, h4, pure_ok h5⟩
namespace Lw
theorem same_loopR {c : List D → M D} {n : Nat} (hc : SameSpec n c) {D' : D} {ds : List D} {ro w : List D} (hD : see ro w D' = .lst ds) (h1 : ∀ d ∈ ds, d.smy = true) (h2 : ∀ d ∈ ds, d.dp ≤ n) : ∀ (is : List Nat) (o : Option D), (∀ i ∈ is, i < ds.length) → ∃ o', forL (.nm 2) (sIf (cNotT (cTru (cCall (fun ds => if ds.length = 2 then c ds else M.no) (cArgs [cBin gIx (cVar 0) (cVar 2), cBin gIx (cVar 1) (cVar 2)])))) (sRet (cK (.bl false))) (sNil)) (is.map fun (i : Nat) => .int (i : Int)) [some D', some (.lst ds), o] ro w = .go .nx [some D', some (.lst ds), o'] w
  | [], o, _ => ⟨o, rfl⟩
  | i :: is, o, h => by
    have hi := h i (by simp)
    obtain ⟨o', k⟩ := same_loopR hc hD h1 h2 is (some (.int i)) (fun j hj => h j (by simp [hj]))
    refine ⟨o', ?_⟩
    have e : ds[i]? = some ds[i] := by simp [hi]
    have q := hc ds[i] ro w (h1 _ (by simp)) (h2 _ (by simp))
    rw [← k]
    simp [e, q, hD]
theorem same_okR {n : Nat} {c : List D → M D} (hc : SameSpec n c) {d : D} {ds : List D} {ro w : List D} (hD : see ro w d = .lst ds) (h1 : (D.lst ds).smy = true) (h2 : (D.lst ds).dp ≤ n + 1) : runDef 2 3 (hSame c) [d, .lst ds] ro w = .ok (.bl true) w := by
  have hl : [d, .lst ds].length = 2 := rfl
  rw [x_def, if_pos hl]
  unfold hSame
  simp only [D.smy, Bool.and_eq_true, decide_eq_true_eq] at h1
  simp only [D.dp] at h2
  obtain ⟨o', k⟩ := same_loopR hc hD (smys_iff.mp h1.2) (dps_iff.mp (by omega)) (List.range ds.length) none (by simp)
  rw [← rngD_nat] at k
  simp [isTy, x_for, rng1_nat h1.1, k, hD]
end Lw
theorem okc_inN {C : Cfg} {X : Cx} {neg : Bool} (h : C = cfg X) : Ok2 C (rInN X neg) (gInN neg) := h ▸ ok2_inN
theorem okc_sorted {C : Cfg} {X : Cx} (h : C = cfg X) : Ok1 C (rSortN X) gSorted := h ▸ ok_sorted
theorem okc_sortedM {C : Cfg} {X : Cx} (h : C = cfg X) : Ok1 C (rSortN X) gSortedM := h ▸ ok_sortedM
end Fx
/-! Formulas and texts, sorted; formulas as keys. -/
namespace Fx
open PySem PySem.Spec L2 PyProof.Rows PySem.W
/-! ### keys -/
mutual
def ofKey : NestedKey → D
  | .none => .non
  | .num i => .int i
  | .text x => .str x
  | .tup ks => .tup (ofKeys ks)
def ofKeys : List NestedKey → List D
  | [] => []
  | k :: ks => ofKey k :: ofKeys ks
end
mutual
theorem of_toKey : ∀ (d : D) {κ : NestedKey}, toKey d = some κ → ofKey κ = d
  | .int i, κ, h => by cases h; rfl
  | .str i, κ, h => by cases h; rfl
  | .tup ds, κ, h => by
    unfold toKey at h
    cases q : toKeys ds with
    | none => rw [q] at h; cases h
    | some ks =>
      rw [q] at h
      cases h
      simp only [ofKey, of_toKeys ds q]
  | .non, κ, h => by cases h
  | .bl _, κ, h => by cases h
  | .fn _, κ, h => by cases h
  | .ref _, κ, h => by cases h
  | .lst _, κ, h => by cases h
  | .dic _ _, κ, h => by cases h
  | .dct _ _, κ, h => by cases h
  | .ins _ _ _, κ, h => by cases h
theorem of_toKeys : ∀ (ds : List D) {κ : List NestedKey}, toKeys ds = some κ → ofKeys κ = ds
  | [], κ, h => by cases h; rfl
  | d :: ds, κ, h => by
    unfold toKeys at h
    cases q1 : toKey d with
    | none => simp only [q1] at h; cases h
    | some d1 =>
      cases q2 : toKeys ds with
      | none => simp only [q1, q2] at h; cases h
      | some ds2 =>
        simp only [q1, q2] at h
        cases h
        simp only [ofKeys, of_toKey d q1, of_toKeys ds q2]
end
theorem toKey_inj {d e : D} {κ : NestedKey} (h : toKey d = some κ) (h' : toKey e = some κ) : d = e := (of_toKey d h).symm.trans (of_toKey e h')
theorem Fm.key : ∀ φ : Fm, ∃ κ, toKey φ.toD = some (.tup κ) ∧ (NestedKey.tup κ).depth = φ.ht
  | .fal => ⟨_, rfl, rfl⟩
  | .var x => ⟨_, rfl, rfl⟩
  | .imp a b => by
    obtain ⟨κ, h1, h2⟩ := a.key
    obtain ⟨μ, g1, g2⟩ := b.key
    exact ⟨[.text "implies", .tup κ, .tup μ], by simp only [Fm.toD, toKey, toKeys, h1, g1]; rfl, by simp only [NestedKey.depth, NestedKey.depthAll] at h2 g2 ⊢; simp only [Fm.ht]; omega⟩
  | .and a b => by
    obtain ⟨κ, h1, h2⟩ := a.key
    obtain ⟨μ, g1, g2⟩ := b.key
    exact ⟨[.text "and", .tup κ, .tup μ], by simp only [Fm.toD, toKey, toKeys, h1, g1]; rfl, by simp only [NestedKey.depth, NestedKey.depthAll] at h2 g2 ⊢; simp only [Fm.ht]; omega⟩
  | .or a b => by
    obtain ⟨κ, h1, h2⟩ := a.key
    obtain ⟨μ, g1, g2⟩ := b.key
    exact ⟨[.text "or", .tup κ, .tup μ], by simp only [Fm.toD, toKey, toKeys, h1, g1]; rfl, by simp only [NestedKey.depth, NestedKey.depthAll] at h2 g2 ⊢; simp only [Fm.ht]; omega⟩
  | .box a => by
    obtain ⟨κ, h1, h2⟩ := a.key
    exact ⟨[.text "box", .tup κ], by simp only [Fm.toD, toKey, toKeys, h1]; rfl, by simp only [NestedKey.depth, NestedKey.depthAll] at h2 ⊢; simp only [Fm.ht]; omega⟩
theorem Fm.isKey {φ : Fm} (h : φ.ht ≤ 8) : isKey φ.toD = true := by
  obtain ⟨κ, h1, h2⟩ := φ.key
  unfold Fx.isKey
  rw [h1]
  simp only [h2, h, decide_true]
theorem Fm.key_eq {φ ψ : Fm} : (toKey φ.toD = toKey ψ.toD) ↔ φ = ψ := by
  constructor
  · intro h
    obtain ⟨κ, h1, _⟩ := φ.key
    exact Fm.toD_inj.mp (toKey_inj h1 (h.symm.trans h1))
  · intro h
    rw [h]
theorem dhas_fm {φ : Fm} {ks : List Fm} : dhasN (ks.map Fm.toD) φ.toD = decide (φ ∈ ks) := by
  unfold dhasN
  rw [List.any_map, Bool.eq_iff_iff, List.any_eq_true, decide_eq_true_eq]
  constructor
  · rintro ⟨ψ, h1, h2⟩
    have h2' := of_decide_eq_true h2
    rw [Fm.key_eq] at h2'
    rw [← h2']
    exact h1
  · intro h
    exact ⟨φ, h, decide_eq_true rfl⟩
theorem dget_fm {f : Fm → D} {φ : Fm} : ∀ ks : List Fm, dgetN (ks.map Fm.toD) (ks.map f) φ.toD = if φ ∈ ks then some (f φ) else none
  | [] => rfl
  | k :: ks => by
    simp only [List.map_cons, dgetN, Fm.key_eq, List.mem_cons]
    by_cases c : k = φ
    · subst c
      simp
    · rw [if_neg c, dget_fm ks]
      simp [Ne.symm c]
theorem dputX_fm {f : Fm → D} {φ : Fm} {v : D} : ∀ ks : List Fm, dputXN (ks.map Fm.toD) (ks.map f) φ.toD v = ks.map fun k => if k = φ then v else f k
  | [] => rfl
  | k :: ks => by
    simp only [List.map_cons, dputXN, Fm.key_eq, dputX_fm ks]
theorem dput_fm {f : Fm → D} {φ : Fm} {v : D} {ks : List Fm} : dputN (ks.map Fm.toD) (ks.map f) φ.toD v = .dct ((if φ ∈ ks then ks else ks ++ [φ]).map Fm.toD) ((if φ ∈ ks then ks else ks ++ [φ]).map fun k => if k = φ then v else f k) := by
  unfold dputN
  rw [dhas_fm]
  by_cases c : φ ∈ ks
  · simp only [c, decide_true, if_true, dputX_fm]
  · simp only [c, decide_false, if_false, Bool.false_eq_true, List.map_append, List.map_cons, List.map_nil, if_true]
    congr 2
    apply List.map_congr_left
    intro k hk
    rw [if_neg (fun e : k = φ => c (e ▸ hk))]
/-! ### order -/
theorem Fm.plainD : ∀ φ : Fm, So.plainD φ.toD.py = true
  | .fal => rfl
  | .var _ => rfl
  | .imp a b => by simp [Fm.toD, D.py, D.pys, So.plainD, So.plainDs, a.plainD, b.plainD]
  | .and a b => by simp [Fm.toD, D.py, D.pys, So.plainD, So.plainDs, a.plainD, b.plainD]
  | .or a b => by simp [Fm.toD, D.py, D.pys, So.plainD, So.plainDs, a.plainD, b.plainD]
  | .box a => by simp [Fm.toD, D.py, D.pys, So.plainD, So.plainDs, a.plainD]
theorem Fm.firstT : ∀ φ : Fm, So.firstT φ.toD.py = 3
  | .fal => rfl
  | .var _ => rfl
  | .imp a b => rfl
  | .and a b => rfl
  | .or a b => rfl
  | .box a => rfl
theorem eqv_lit {a b : String} : PyData.eqv (.str (Str.ofString a)) (.str (Str.ofString b)) = decide (a = b) := by
  rw [Bool.eq_iff_iff]
  simp [PyData.eqv, ofString_inj]
theorem ak2 {t u : String} {xs ys : List PyData} (h : t = u → So.akinAll xs ys = true) : So.akin (.tuple (.str (Str.ofString t) :: xs)) (.tuple (.str (Str.ofString u) :: ys)) = true := by
  rw [So.akin, So.akinAll, So.akin, eqv_lit]
  by_cases c : t = u
  · rw [h c]
    simp
  · simp [c]
theorem akc {x y : PyData} {xs ys : List PyData} (h : So.akin x y = true) (h' : So.akinAll xs ys = true) : So.akinAll (x :: xs) (y :: ys) = true := by
  rw [So.akinAll, h, h']
  simp
theorem ak0 : So.akinAll [] [] = true := by rw [So.akinAll]
theorem akS {x y : Str} : So.akin (.str x) (.str y) = true := by rw [So.akin]
theorem Fm.akin : ∀ φ ψ : Fm, So.akin φ.toD.py ψ.toD.py = true
  | .fal, ψ => by
    cases ψ with
    | fal => exact ak2 fun _ => ak0
    | _ => exact ak2 fun h => absurd h (by decide)
  | .var _, ψ => by
    cases ψ with
    | var y => exact ak2 fun _ => akc akS ak0
    | _ => exact ak2 fun h => absurd h (by decide)
  | .imp a b, ψ => by
    have ia := a.akin
    have ib := b.akin
    cases ψ with
    | imp c d => exact ak2 fun _ => akc (ia c) (akc (ib d) ak0)
    | _ => exact ak2 fun h => absurd h (by decide)
  | .and a b, ψ => by
    have ia := a.akin
    have ib := b.akin
    cases ψ with
    | and c d => exact ak2 fun _ => akc (ia c) (akc (ib d) ak0)
    | _ => exact ak2 fun h => absurd h (by decide)
  | .or a b, ψ => by
    have ia := a.akin
    have ib := b.akin
    cases ψ with
    | or c d => exact ak2 fun _ => akc (ia c) (akc (ib d) ak0)
    | _ => exact ak2 fun h => absurd h (by decide)
  | .box a, ψ => by
    have ia := a.akin
    cases ψ with
    | box c => exact ak2 fun _ => akc (ia c) ak0
    | _ => exact ak2 fun h => absurd h (by decide)
theorem toks_ne {x y : PyData} (h : So.akin x y = true) (e : PyData.eqv x y = false) : keyToks x ≠ keyToks y := fun q => by
  have z := (So.toks_akin x y h).2 e [.inl 0] [.inl 1]
  rw [q] at z
  have z1 : So.lx (keyToks y ++ [.inl 0]) (keyToks y ++ [.inl 1]) = true := (lex_pre (keyToks y) [.inl 0] [.inl 1]).trans (by rw [lex_one]; rfl)
  have z2 : So.lx (keyToks y) (keyToks y) = false := lex_irrefl _
  rw [z1, z2] at z
  cases z
abbrev kTot : TotalLe kle := sortLe_total (listOrd itemOrd) false keyToks
theorem kle_toks {x y : PyData} (h1 : kle x y = true) (h2 : kle y x = true) : keyToks x = keyToks y := by
  have a : (!So.lx (keyToks y) (keyToks x)) = true := h1
  have b : (!So.lx (keyToks x) (keyToks y)) = true := h2
  exact (listOrd itemOrd).total _ _ (by simpa using b) (by simpa using a)
theorem kle_anti {x y : PyData} (h : So.akin x y = true) (h1 : kle x y = true) (h2 : kle y x = true) : PyData.eqv x y = true := by
  cases e : PyData.eqv x y with
  | true => rfl
  | false => exact absurd (kle_toks h1 h2) (toks_ne h e)
/-- a kind of things that are sorted -/
structure Sk (α : Type) where
  f : α → D
  inj : ∀ a b, f a = f b → a = b
  nb : ∀ a, (f a).nb = true
  akin : ∀ a b, So.akin (f a).py (f b).py = true
  plain : ∀ a, So.plainD (f a).py = true
  ft : Nat
  lt : ft < 4
  first : ∀ a, So.firstT (f a).py = ft
def fmS : Sk Fm := ⟨Fm.toD, fun _ _ h => Fm.toD_inj.mp h, Fm.nb, Fm.akin, Fm.plainD, 3, by decide, Fm.firstT⟩
def stS : Sk Str := ⟨.str, fun _ _ h => D.str.inj h, fun _ => rfl, fun _ _ => rfl, fun _ => rfl, 1, by decide, fun _ => rfl⟩
section
variable {α : Type} (S : Sk α)
def Sk.le (a b : α) : Bool := kle (S.f a).py (S.f b).py
def Sk.sort (l : List α) : List α := l.mergeSort S.le
theorem Sk.tot : TotalLe S.le := ⟨fun a b c h1 h2 => kTot.trans _ _ _ h1 h2, fun a b => kTot.total _ _⟩
theorem Sk.anti {a b : α} (h1 : S.le a b = true) (h2 : S.le b a = true) : a = b :=
  S.inj a b ((eqv_nb _ _ (S.nb a) (S.nb b)).mp (kle_anti (S.akin a b) h1 h2))
theorem Sk.sorted (l : List α) : (S.sort l).Pairwise fun a b => S.le a b = true := sort_pairwise S.tot l
theorem Sk.mem {l : List α} {a : α} : a ∈ S.sort l ↔ a ∈ l := (List.mergeSort_perm l S.le).mem_iff
theorem Sk.perm (l : List α) : (S.sort l).Perm l := List.mergeSort_perm l S.le
/-- what is sorted without repetitions is one list -/
theorem Sk.one {l m : List α} (hl : l.Pairwise fun a b => S.le a b = true) (hm : m.Pairwise fun a b => S.le a b = true) (nl : l.Nodup) (nm : m.Nodup) (h : ∀ a, a ∈ l ↔ a ∈ m) : l = m :=
  List.Perm.eq_of_pairwise (le := fun a b => S.le a b = true) (fun a b _ _ h1 h2 => S.anti h1 h2) hl hm ((List.perm_ext_iff_of_nodup nl nm).mpr h)
theorem Sk.sortD (l : List α) : sortD (l.map S.f) = (S.sort l).map S.f := by
  unfold Fx.sortD Sk.sort
  exact (sort_maps S.f fun a _ b _ => rfl).symm
theorem Sk.can {l : List α} (h1 : ∀ a ∈ l, (S.f a).lay = true) (h2 : ∀ a ∈ l, (S.f a).dp ≤ 64) : canSort (D.pys (l.map S.f)) = true := by
  rw [pys_map, List.map_map]
  unfold canSort
  simp only [Bool.and_eq_true, List.all_eq_true, decide_eq_true_eq, List.mem_map, Function.comp, forall_exists_index, and_imp, forall_apply_eq_imp_iff₂]
  refine ⟨⟨⟨fun a _ => S.plain a, fun a _ b _ => S.akin a b⟩, fun a ha => ⟨by rw [D.py_lay]; exact h1 a ha, by rw [D.py_dp]; exact h2 a ha⟩⟩, ?_⟩
  cases l with
  | nil => rfl
  | cons b l =>
    simp only [List.map_cons, Bool.and_eq_true, decide_eq_true_eq, List.all_eq_true, Function.comp]
    rw [S.first b]
    refine ⟨S.lt, fun d hd => ?_⟩
    rcases List.mem_cons.mp hd with e | hd
    · rw [e]
      exact S.first b
    · obtain ⟨a, _, rfl⟩ := List.mem_map.mp hd
      exact S.first a
theorem Sk.flats (l : List α) : D.flats (l.map S.f) = true := by
  rw [flats_iff]
  intro d hd
  obtain ⟨a, _, rfl⟩ := List.mem_map.mp hd
  exact D.nb_flat _ (S.nb a)
theorem Sk.sortI_lst {l : List α} (h1 : ∀ a ∈ l, (S.f a).lay = true) (h2 : ∀ a ∈ l, (S.f a).dp ≤ 64) (h3 : l.length ≤ sizeLine) : sortI (.lst (l.map S.f)) = some ((S.sort l).map S.f) := by
  unfold sortI
  simp only [S.flats, S.can h1 h2, List.length_map, h3, decide_true, Bool.and_self, if_true, S.sortD]
theorem Sk.sortI_dct {l : List α} {xs : List D} (h1 : ∀ a ∈ l, (S.f a).lay = true) (h2 : ∀ a ∈ l, (S.f a).dp ≤ 64) (h3 : l.length ≤ sizeLine) : sortI (.dct (l.map S.f) xs) = some ((S.sort l).map S.f) := by
  unfold sortI
  simp only [S.flats, S.can h1 h2, List.length_map, h3, decide_true, Bool.and_self, if_true, S.sortD]
end
/-! ### each once: of a sorted list -/
section
variable {α : Type} [DecidableEq α]
def ddS (acc : List α) (a : α) : List α := if acc.getLast? = some a then acc else acc ++ [a]
def dd (l : List α) : List α := l.foldl ddS []
theorem dd_spec (S : Sk α) : ∀ (l acc : List α), (acc ++ l).Pairwise (fun a b => S.le a b = true) → acc.Nodup → (l.foldl ddS acc).Pairwise (fun a b => S.le a b = true) ∧ (l.foldl ddS acc).Nodup ∧ ∀ a, a ∈ l.foldl ddS acc ↔ a ∈ acc ∨ a ∈ l
  | [], acc, h, hn => ⟨by simpa using h, hn, fun a => by simp⟩
  | x :: l, acc, h, hn => by
    rw [List.foldl_cons, show ddS acc x = if acc.getLast? = some x then acc else acc ++ [x] from rfl]
    by_cases c : acc.getLast? = some x
    · rw [if_pos c]
      have hx : x ∈ acc := List.mem_of_getLast? c
      obtain ⟨h1, h2, h3⟩ := dd_spec S l acc (h.sublist (by simp)) hn
      refine ⟨h1, h2, fun a => ?_⟩
      rw [h3]
      simp only [List.mem_cons]
      constructor
      · rintro (z | z)
        · exact .inl z
        · exact .inr (.inr z)
      · rintro (z | z | z)
        · exact .inl z
        · exact .inl (z ▸ hx)
        · exact .inr z
    · rw [if_neg c]
      have nx : x ∉ acc := by
        intro hx
        apply c
        rcases List.eq_nil_or_concat acc with e | ⟨init, b, e⟩
        · rw [e] at hx
          cases hx
        · rw [List.concat_eq_append] at e
          subst e
          rw [List.getLast?_append, List.getLast?_singleton]
          have hp : (init ++ [b]).Pairwise fun a b => S.le a b = true := h.sublist (List.sublist_append_left _ _)
          have bx : S.le b x = true := (List.pairwise_append.mp h).2.2 b (by simp) x (by simp)
          have xb : S.le x b = true := by
            rcases List.mem_append.mp hx with z | z
            · exact (List.pairwise_append.mp hp).2.2 x z b (by simp)
            · rw [List.mem_singleton.mp z]
              exact S.tot.refl b
          rw [S.anti bx xb]
          rfl
      have hn' : (acc ++ [x]).Nodup := by
        rw [List.nodup_append]
        refine ⟨hn, by simp, fun a ha b hb e => nx ?_⟩
        rw [List.mem_singleton] at hb
        rw [← hb, ← e]
        exact ha
      obtain ⟨h1, h2, h3⟩ := dd_spec S l (acc ++ [x]) (by simpa using h) hn'
      refine ⟨h1, h2, fun a => ?_⟩
      rw [h3]
      simp only [List.mem_append, List.mem_singleton, List.mem_cons, or_assoc]
      simp
/-- sorted, each once, of lists with the same members -/
theorem dd_sort (S : Sk α) {l m : List α} (hm : m.Nodup) (h : ∀ a, a ∈ l ↔ a ∈ m) : dd (S.sort l) = S.sort m := by
  obtain ⟨h1, h2, h3⟩ := dd_spec S (S.sort l) [] (by simpa using S.sorted l) List.nodup_nil
  refine S.one h1 (S.sorted m) h2 ((S.perm m).nodup_iff.mpr hm) fun a => ?_
  rw [S.mem, ← h a]
  have := h3 a
  simp only [List.not_mem_nil, false_or] at this
  exact this.trans S.mem
theorem dd_id (S : Sk α) {l : List α} (h : l.Pairwise fun a b => S.le a b = true) (hn : l.Nodup) : dd (S.sort l) = l := by
  rw [dd_sort S hn fun _ => Iff.rfl]
  exact S.one (S.sorted l) h ((S.perm l).nodup_iff.mpr hn) hn fun a => S.mem
end
/-- variables are sorted by their names -/
theorem var_le {x y : Str} : fmS.le (.var x) (.var y) = stS.le x y := by
  have e1 : So.lx (keyToksAll [.str "var", .str y]) (keyToksAll [.str "var", .str x]) = So.lx (keyToksAll [.str y]) (keyToksAll [.str x]) := So.lt_yes rfl (by simp [PyData.eqv])
  have e2 : So.lx (keyToksAll [.str y]) (keyToksAll [.str x]) = dataLt (.str y) (.str x) := by
    cases e : PyData.eqv (.str y) (.str x) with
    | false => exact So.lt_no rfl e
    | true =>
      have : y = x := by simpa [PyData.eqv] using e
      subst this
      rw [So.lt_yes rfl e, dataLt_str]
      have z : So.lx (keyToksAll []) (keyToksAll []) = false := lex_irrefl _
      rw [z]
      symm
      simp
  show (!So.lx (keyToks (.tuple [.str "var", .str y])) (keyToks (.tuple [.str "var", .str x]))) = !So.lx (keyToks (.str y)) (keyToks (.str x))
  have e3 : ∀ xs : List PyData, keyToks (.tuple xs) = keyToksAll xs := fun xs => by simp only [keyToks]
  rw [e3, e3, e1, e2]
  rfl
/-! ### what is collected -/
def colS (φ : Fm) (ks : List Fm) : List Fm := if φ ∈ ks then ks else ks ++ [φ]
def col : Fm → List Fm → List Fm
  | .fal, ks => colS .fal ks
  | .var x, ks => colS (.var x) ks
  | .imp a b, ks => if Fm.imp a b ∈ ks then ks else col b (col a (ks ++ [.imp a b]))
  | .and a b, ks => if Fm.and a b ∈ ks then ks else col b (col a (ks ++ [.and a b]))
  | .or a b, ks => if Fm.or a b ∈ ks then ks else col b (col a (ks ++ [.or a b]))
  | .box a, ks => if Fm.box a ∈ ks then ks else col a (ks ++ [.box a])
theorem col_eq (φ : Fm) (ks : List Fm) : col φ ks = if φ ∈ ks then ks else φ.parts.foldl (fun ks ψ => col ψ ks) (ks ++ [φ]) := by
  cases φ <;> simp [col, colS, Fm.parts]
structure ColOk (φ : Fm) (ks : List Fm) (r : List Fm) : Prop where
  nd : r.Nodup
  sub : ∀ χ ∈ ks, χ ∈ r
  sup : ∀ χ ∈ r, χ ∈ ks ∨ χ ∈ φ.all
  all : ∀ χ ∈ φ.all, χ ∈ r
  len : r.length ≤ ks.length + φ.sz
theorem Fm.all_self (φ : Fm) : φ ∈ φ.all := by rw [φ.all_parts]; exact List.mem_cons_self
theorem Fm.all_small : ∀ (φ : Fm) {χ : Fm}, χ ∈ φ.all → χ = φ ∨ χ.sz < φ.sz
  | .fal, χ, h => by simp [Fm.all] at h; exact .inl h
  | .var x, χ, h => by simp [Fm.all] at h; exact .inl h
  | .imp a b, χ, h => by
    simp only [Fm.all, List.mem_cons, List.mem_append] at h
    rcases h with h | h | h
    · exact .inl h
    · rcases a.all_small h with e | e
      · subst e; right; simp only [Fm.sz]; omega
      · right; simp only [Fm.sz]; omega
    · rcases b.all_small h with e | e
      · subst e; right; simp only [Fm.sz]; omega
      · right; simp only [Fm.sz]; omega
  | .and a b, χ, h => by
    simp only [Fm.all, List.mem_cons, List.mem_append] at h
    rcases h with h | h | h
    · exact .inl h
    · rcases a.all_small h with e | e
      · subst e; right; simp only [Fm.sz]; omega
      · right; simp only [Fm.sz]; omega
    · rcases b.all_small h with e | e
      · subst e; right; simp only [Fm.sz]; omega
      · right; simp only [Fm.sz]; omega
  | .or a b, χ, h => by
    simp only [Fm.all, List.mem_cons, List.mem_append] at h
    rcases h with h | h | h
    · exact .inl h
    · rcases a.all_small h with e | e
      · subst e; right; simp only [Fm.sz]; omega
      · right; simp only [Fm.sz]; omega
    · rcases b.all_small h with e | e
      · subst e; right; simp only [Fm.sz]; omega
      · right; simp only [Fm.sz]; omega
  | .box a, χ, h => by
    simp only [Fm.all, List.mem_cons] at h
    rcases h with h | h
    · exact .inl h
    · rcases a.all_small h with e | e
      · subst e; right; simp only [Fm.sz]; omega
      · right; simp only [Fm.sz]; omega
/-- what is smaller than m and there has all its parts there -/
def Full (m : Nat) (ks : List Fm) : Prop := ∀ χ ∈ ks, χ.sz ≤ m → ∀ ψ ∈ χ.all, ψ ∈ ks
theorem col_ok : ∀ (n : Nat) (φ : Fm) (ks : List Fm) (m : Nat), φ.sz ≤ n → φ.sz ≤ m → ks.Nodup → Full m ks → ColOk φ ks (col φ ks) ∧ Full m (col φ ks)
  | 0, φ, ks, m, h, _, _, _ => by cases φ <;> simp [Fm.sz] at h
  | n + 1, φ, ks, m, h, hm, nd, fu => by
    rw [col_eq]
    by_cases c : φ ∈ ks
    · rw [if_pos c]
      exact ⟨⟨nd, fun _ h => h, fun _ h => .inl h, fun χ hχ => fu φ c hm χ hχ, Nat.le_add_right _ _⟩, fu⟩
    · rw [if_neg c]
      have nd1 : (ks ++ [φ]).Nodup := by
        rw [List.nodup_append]
        refine ⟨nd, by simp, fun a ha b hb e => c ?_⟩
        rw [List.mem_singleton] at hb
        rw [← hb, ← e]
        exact ha
      have fu1 : ∀ k, k < φ.sz → Full k (ks ++ [φ]) := fun k hk χ hχ hs ψ hψ => by
        rcases List.mem_append.mp hχ with z | z
        · exact List.mem_append_left _ (fu χ z (by omega) ψ hψ)
        · rw [List.mem_singleton] at z
          subst z
          omega
      have fold : ∀ (ps : List Fm), (∀ p ∈ ps, p.sz < φ.sz) → ∀ (qs : List Fm), qs.Nodup → (∀ k, k < φ.sz → Full k qs) → (ps.foldl (fun ks ψ => col ψ ks) qs).Nodup ∧ (∀ χ ∈ qs, χ ∈ ps.foldl (fun ks ψ => col ψ ks) qs) ∧ (∀ χ ∈ ps.foldl (fun ks ψ => col ψ ks) qs, χ ∈ qs ∨ ∃ p ∈ ps, χ ∈ p.all) ∧ (∀ p ∈ ps, ∀ χ ∈ p.all, χ ∈ ps.foldl (fun ks ψ => col ψ ks) qs) ∧ (ps.foldl (fun ks ψ => col ψ ks) qs).length ≤ qs.length + (ps.map Fm.sz).sum ∧ ∀ k, k < φ.sz → Full k (ps.foldl (fun ks ψ => col ψ ks) qs) := by
        intro ps
        induction ps with
        | nil => intro _ qs nq fq; exact ⟨nq, fun _ h => h, fun _ h => .inl h, (fun p hp => by cases hp), (by simp), fq⟩
        | cons p ps ih =>
          intro hps qs nq fq
          have hp := hps p (by simp)
          have one := fun k (hk : k < φ.sz) (hpk : p.sz ≤ k) => col_ok n p qs k (by omega) hpk nq (fq k hk)
          obtain ⟨o1, _⟩ := one p.sz hp (Nat.le_refl _)
          have fq' : ∀ k, k < φ.sz → Full k (col p qs) := fun k hk => by
            by_cases q : p.sz ≤ k
            · exact (one k hk q).2
            · intro χ hχ hs
              exact (one p.sz hp (Nat.le_refl _)).2 χ hχ (by omega)
          obtain ⟨i1, i2, i3, i4, i5, i6⟩ := ih (fun q hq => hps q (by simp [hq])) (col p qs) o1.nd fq'
          rw [List.foldl_cons]
          refine ⟨i1, fun χ hχ => i2 χ (o1.sub χ hχ), fun χ hχ => ?_, fun q hq χ hχ => ?_, ?_, i6⟩
          · rcases i3 χ hχ with z | ⟨q, hq, z⟩
            · rcases o1.sup χ z with z | z
              · exact .inl z
              · exact .inr ⟨p, by simp, z⟩
            · exact .inr ⟨q, by simp [hq], z⟩
          · rcases List.mem_cons.mp hq with e | hq
            · rw [e] at hχ
              exact i2 χ (o1.all χ hχ)
            · exact i4 q hq χ hχ
          · have := o1.len
            simp only [List.map_cons, List.sum_cons]
            omega
      obtain ⟨f1, f2, f3, f4, f5, f6⟩ := fold φ.parts (fun p hp => Fm.part_sz hp) (ks ++ [φ]) nd1 fu1
      have hall : ∀ χ, χ ∈ φ.all ↔ χ = φ ∨ ∃ p ∈ φ.parts, χ ∈ p.all := fun χ => by
        rw [φ.all_parts]
        simp [List.mem_flatMap]
      have hsz : φ.sz = (φ.parts.map Fm.sz).sum + 1 := by cases φ <;> simp [Fm.sz, Fm.parts]
      have all' : ∀ χ ∈ φ.all, χ ∈ φ.parts.foldl (fun ks ψ => col ψ ks) (ks ++ [φ]) := fun χ hχ => by
        rcases (hall χ).mp hχ with e | ⟨p, hp, z⟩
        · rw [e]
          exact f2 φ (by simp)
        · exact f4 p hp χ z
      refine ⟨⟨f1, fun χ hχ => f2 χ (by simp [hχ]), fun χ hχ => ?_, all', ?_⟩, fun χ hχ hs ψ hψ => ?_⟩
      · rcases f3 χ hχ with z | z
        · rcases List.mem_append.mp z with z | z
          · exact .inl z
          · exact .inr ((hall χ).mpr (.inl (List.mem_singleton.mp z)))
        · exact .inr ((hall χ).mpr (.inr z))
      · rw [List.length_append, List.length_singleton] at f5
        omega
      · by_cases q : χ.sz < φ.sz
        · exact f6 χ.sz q χ hχ (Nat.le_refl _) ψ hψ
        · rcases f3 χ hχ with z | ⟨p, hp, z⟩
          · rcases List.mem_append.mp z with z | z
            · exact f2 ψ (List.mem_append_left _ (fu χ z hs ψ hψ))
            · rw [List.mem_singleton.mp z] at hψ
              exact all' ψ hψ
          · have := Fm.part_sz hp
            rcases p.all_small z with e | e
            · subst e
              omega
            · omega
theorem col_nil (φ : Fm) : ColOk φ [] (col φ []) := (col_ok φ.sz φ [] φ.sz (Nat.le_refl _) (Nat.le_refl _) List.nodup_nil fun χ h => by cases h).1
theorem col_mem (φ : Fm) {χ : Fm} : χ ∈ col φ [] ↔ χ ∈ φ.all := ⟨fun h => ((col_nil φ).sup χ h).resolve_left (by simp), (col_nil φ).all χ⟩
end Fx
/-! Statements behind which what they have made stands still. -/
namespace Fx
open PySem PySem.Spec L2
/-- what stands behind: the objects that were there ahead; the rest is told -/
def cutW (n m : Nat) (w : List D) : Option (List D) := if m ≤ w.length ∧ (w.take m).all (D.under (n + m)) = true then some (w.take m) else none
def tellE (n m : Nat) (w : List D) (env : Env) : Env := env.map fun o => o.bind (D.tell (told (n + m) (w.drop m) 4))
def sTell (s : SF) : SF := fun env ro w => match s env ro w with
  | .go .nx env' w' => (match cutW ro.length w.length w' with
    | some w2 => .go .nx (tellE ro.length w.length w' env') w2
    | none => .no)
  | _ => .no
section
variable {C : Cfg} {W : WX} {ρ ρ' : Zn} {H H' : Hp} {ro w w' w2 : List D} {σ : L2.St} {env : Env}
theorem cutW_some {n m : Nat} (h : cutW n m w = some w2) : m ≤ w.length ∧ (w.take m).all (D.under (n + m)) = true ∧ w2 = w.take m := by
  unfold cutW at h
  split at h
  · rename_i c
    cases h
    exact ⟨c.1, c.2, rfl⟩
  · cases h
theorem split_at (h : w.length ≤ w'.length) : ro ++ w' = (ro ++ w'.take w.length) ++ w'.drop w.length := by
  rw [List.append_assoc, List.take_append_drop]
theorem cut_len (h : w.length ≤ w'.length) : (ro ++ w'.take w.length).length = ro.length + w.length := by
  rw [List.length_append, List.length_take, Nat.min_eq_left h]
theorem tell_back (hS : RepS C ρ H (ro ++ w)) (hc : cutW ro.length w.length w' = some w2) (x : Ext ρ ρ' H H') (s : RepS C ρ' H' (ro ++ w')) : Ext ρ (ρ'.take (ro.length + w.length)) H H' ∧ RepS C (ρ'.take (ro.length + w.length)) H' (ro ++ w2) := by
  obtain ⟨h1, h2, rfl⟩ := cutW_some hc
  have hlen : ρ.r.length = ro.length + w.length := by rw [hS.len, List.length_append]
  obtain ⟨⟨ν, p⟩, g1, k1, m1⟩ := x
  refine ⟨⟨⟨[], ?_⟩, g1, fun a o e n => ⟨(k1 a o e n).1, Out.take (k1 a o e n).2⟩, m1⟩, ?_⟩
  · show ρ'.r.take _ = _
    rw [p, ← hlen, List.take_left', List.append_nil]
    rfl
  · have z := RepS.take (n := ro.length + w.length) s fun i d hi hd => ?_
    · rw [split_at h1, List.take_left' (cut_len h1)] at z
      exact z
    · by_cases c : i < ro.length
      · rw [List.getElem?_append_left c] at hd
        have hr : i < ρ.r.length := by omega
        have := RepO.below (hS.obj i ρ.r[i] d (List.getElem?_eq_getElem hr) (by rw [List.getElem?_append_left c]; exact hd))
        rw [hlen] at this
        exact this
      · rw [List.getElem?_append_right (by omega)] at hd
        refine List.all_eq_true.mp h2 d (List.mem_of_getElem? (i := i - ro.length) ?_)
        rw [List.getElem?_take_of_lt (by omega)]
        exact hd
theorem tell_env (hc : cutW ro.length w.length w' = some w2) (s : RepS C ρ' H' (ro ++ w')) (e : RepE C ρ' H' env σ) : RepE C (ρ'.take (ro.length + w.length)) H' (tellE ro.length w.length w' env) σ := by
  obtain ⟨h1, h2, rfl⟩ := cutW_some hc
  refine ⟨by unfold tellE; rw [List.length_map]; exact e.len, fun i d hd => ?_⟩
  unfold tellE at hd
  rw [List.getElem?_map] at hd
  cases q : env[i]? with
  | none => rw [q] at hd; cases hd
  | some o =>
    rw [q] at hd
    cases o with
    | none => cases hd
    | some d0 =>
      have hd' : D.tell (told (ro.length + w.length) (w'.drop w.length) 4) d0 = some d := by
        have := Option.some.inj hd
        exact this
      obtain ⟨v, g1, g2⟩ := e.at' i d0 q
      refine ⟨v, g1, ?_⟩
      have s' : RepS C ρ' H' ((ro ++ w'.take w.length) ++ w'.drop w.length) := by rw [← split_at h1]; exact s
      have tk := told_ok s' 4
      rw [cut_len h1] at tk
      exact Rep.tell tk d0 hd' g2
theorem after_tell {D : Ends} {s : SF} (hS : RepS C ρ H (ro ++ w)) (q : AfterS C W ρ H ro (sTell s env ro w) D) : AfterS C W ρ H ro (s env ro w) D := by
  unfold sTell at q
  cases e : s env ro w with
  | no => rw [e] at q; exact q
  | exn c ns xs env' w' => rw [e] at q; exact (show False from q).elim
  | go fl env' w' =>
    rw [e] at q
    cases fl with
    | nx =>
      cases hc : cutW ro.length w.length w' with
      | none =>
        simp only [hc] at q
        exact (show False from q).elim
      | some w2 =>
        simp only [hc] at q
        intro σ' ρ' H' x s1 e1
        obtain ⟨x2, s2⟩ := tell_back hS hc x s1
        exact q σ' _ H' x2 s2 (tell_env hc s1 e1)
    | rt d => exact (show False from q).elim
    | bk => exact (show False from q).elim
    | ct => exact (show False from q).elim
end
section
variable {X : Cx} {W : WX} {st : Stmt} {sts rest : List Stmt} {s t : SF}
theorem f_tell (h : PS X st (tS (cfg X) W s)) : PS X st (tS (cfg X) W (sTell s)) := ps_imp h fun D σ H ⟨ρ, env, ro, w, hS, hE, q⟩ => ⟨ρ, env, ro, w, hS, hE, after_tell hS q⟩
theorem fss_tell (h : PSs X sts (tS (cfg X) W s)) : PSs X sts (tS (cfg X) W (sTell s)) := pss_imp h fun D σ H ⟨ρ, env, ro, w, hS, hE, q⟩ => ⟨ρ, env, ro, w, hS, hE, after_tell hS q⟩
theorem execs_app (env : PySem.Env) : ∀ (as bs : List Stmt), execs (as ++ bs) env = execs as env >>= fun f => match f with
    | .next => execs bs env
    | f => pure f
  | [], bs => by
    rw [show execs [] env = pure Flow.next from rfl, pure_bind]
    rfl
  | a :: as, bs => by
    have e1 : ∀ l, execs (a :: l) env = exec a env >>= fun f => match f with
      | .next => execs l env
      | f => pure f := fun _ => rfl
    rw [List.cons_append, e1, e1, bind_assoc]
    congr 1
    funext f
    cases f with
    | next => exact execs_app env as bs
    | ret v => simp only [pure_bind]
    | brk => simp only [pure_bind]
    | cont => simp only [pure_bind]
theorem fs_app {g : List Stmt} (h1 : PSs X g (tS (cfg X) W s)) (h2 : PSs X rest (tS (cfg X) W t)) : PSs X (g ++ rest) (tS (cfg X) W (sSeq s t)) := by
  refine ⟨fun pins s0 σ H D I ⟨ρ, env, ro, w, hS, hE, q⟩ => ?_⟩
  rw [execs_app]
  refine wpAny_bind (thn (h1.run pins s0 σ H { D with nx := fun σ' H' => tS (cfg X) W t D σ' H' } I ⟨ρ, env, ro, w, hS, hE, ?_⟩) fun f s1 q1 => ?_)
  · unfold sSeq at q
    cases e : s env ro w with
    | go fl env1 w1 =>
      rw [e] at q
      cases fl with
      | nx => exact fun σ1 ρ1 H1 x1 s1 e1 => ⟨ρ1, env1, ro, w1, s1, e1, AfterS.ext x1 q⟩
      | rt d => exact q
      | bk => exact q
      | ct => exact q
    | exn c ns xs env1 w1 =>
      rw [e] at q
      exact q
    | no =>
      rw [e] at q
      exact q
  · cases f with
    | next =>
      obtain ⟨σ', H', I', q'⟩ := q1
      exact h2.run pins s1 σ' H' D I' q'
    | ret v => exact wpAny_pure q1
    | brk => exact wpAny_pure q1
    | cont => exact wpAny_pure q1
/-- two statements, and what they have made stands still behind them -/
theorem fs_tell2 {a b : Stmt} {s1 s2 : SF} (h1 : PS X a (tS (cfg X) W s1)) (h2 : PS X b (tS (cfg X) W s2)) (h : PSs X rest (tS (cfg X) W t)) : PSs X (a :: b :: rest) (tS (cfg X) W (sSeq (sTell (sSeq s1 s2)) t)) :=
  fs_app (g := [a, b]) (fss_tell (fs_cons h1 (fs_one h2))) h
end
section
variable {ro w : List D} {env : Env} {s : SF}
theorem x_tell {env' : Env} {w' w2 : List D} (h : s env ro w = .go .nx env' w') (hc : cutW ro.length w.length w' = some w2) : sTell s env ro w = .go .nx (tellE ro.length w.length w' env') w2 := by
  unfold sTell
  rw [h]
  simp only [hc]
end
end Fx
/-! Own classes: fields, methods, new instances. -/
namespace Fx
open PySem PySem.Spec L2
/-! ### fields -/
def fieldV : List Str → List D → Str → Option D
  | n :: ns, x :: xs, f => if f = n then some x else fieldV ns xs f
  | _, _, _ => none
def putI : List Str → List D → Str → D → List Str × List D
  | n :: ns, x :: xs, f, d => if n = f then (n :: ns, d :: xs) else (n :: (putI ns xs f d).1, x :: (putI ns xs f d).2)
  | _, _, f, d => ([f], [d])
/-- what is known of a class: where it stands, which names are no attributes of it -/
structure ClX (K : PySem.W.Frag) (mg : Str → Option Value) (c : Str) (fs : List Str) : Prop where
  ex : ∃ A, mg c = some (.ref A) ∧ Cls K A ∧ ∀ f ∈ fs, NoAttr K A f
def gFld (c f : Str) (d : D) : M D := match d with
  | .ins c' ns xs => if c' = c then (match fieldV ns xs f with
    | some x => M.pure x
    | none => M.no) else M.no
  | _ => M.no
def cFld (c f : Str) (fo : EF) : EF := fun env => M.bind (fo env) fun o => M.bind (M.see o) fun o => gFld c f o
def gSetF (c f : Str) (v o : D) : M D := match o with
  | .ref n => fun ro w => if n < ro.length then .no else match w[n - ro.length]? with
    | some (.ins c' ns xs) => if c' = c ∧ ns.length < 1000 then .ok .non (w.set (n - ro.length) (.ins c (putI ns xs f v).1 (putI ns xs f v).2)) else .no
    | _ => .no
  | _ => M.no
def sSetF (c f : Str) (fo fv : EF) : SF := sLift fv fun v => sLift fo fun o => sLift (fun _ => gSetF c f v o) fun _ env _ w => .go .nx env w
section
variable {C : Cfg} {ρ : Zn} {H : Hp} {ro w : List D}
theorem fieldV_rep {f : Str} {d : D} : ∀ {fs : List (Str × V)} {xs : List D}, fieldV (fs.map (·.1)) xs f = some d → Reps C ρ H xs (fs.map (·.2)) → ∃ v, fs.lookup f = some v ∧ Rep C ρ H d v
  | [], xs, h, _ => by cases xs <;> cases h
  | p :: fs, [], h, _ => by cases h
  | p :: fs, x :: xs, h, ⟨v, r, e, h1, h2⟩ => by
    simp only [List.map_cons, List.cons.injEq] at e
    obtain ⟨e1, e2⟩ := e
    subst e1 e2
    simp only [List.map_cons, fieldV] at h
    obtain ⟨k, u⟩ := p
    by_cases c : f = k
    · rw [if_pos c] at h
      cases h
      exact ⟨u, by rw [List.lookup_cons, beq_iff_eq.mpr c], h1⟩
    · rw [if_neg c] at h
      obtain ⟨v, g1, g2⟩ := fieldV_rep h h2
      exact ⟨v, by rw [List.lookup_cons, beq_eq_false_iff_ne.mpr c]; exact g1, g2⟩
theorem putI_rep {f : Str} {d : D} {v : V} (hd : Rep C ρ H d v) : ∀ {fs : List (Str × V)} {xs : List D}, Reps C ρ H xs (fs.map (·.2)) → (putI (fs.map (·.1)) xs f d).1 = (putF f v fs).map (·.1) ∧ Reps C ρ H (putI (fs.map (·.1)) xs f d).2 ((putF f v fs).map (·.2))
  | [], xs, h => ⟨by cases xs <;> rfl, by
    have e : putI ([].map fun (p : Str × V) => p.1) xs f d = ([f], [d]) := by cases xs <;> rfl
    rw [e]
    exact Reps.one hd⟩
  | p :: fs, [], h => by simp [Reps] at h
  | p :: fs, x :: xs, ⟨u, r, e, h1, h2⟩ => by
    simp only [List.map_cons, List.cons.injEq] at e
    obtain ⟨e1, e2⟩ := e
    subst e1 e2
    obtain ⟨k, u⟩ := p
    have eF : putF f v ((k, u) :: fs) = if k = f then (k, v) :: fs else (k, u) :: putF f v fs := rfl
    have eI : putI (((k, u) :: fs).map (·.1)) (x :: xs) f d = if k = f then (k :: fs.map (·.1), d :: xs) else (k :: (putI (fs.map (·.1)) xs f d).1, x :: (putI (fs.map (·.1)) xs f d).2) := rfl
    rw [eF, eI]
    by_cases c : k = f
    · rw [if_pos c, if_pos c]
      exact ⟨rfl, v, _, rfl, hd, h2⟩
    · rw [if_neg c, if_neg c]
      obtain ⟨g1, g2⟩ := putI_rep (f := f) hd h2
      exact ⟨by simp only [List.map_cons, g1], u, _, rfl, h1, g2⟩
theorem Seen.ins {c : Str} {ns : List Str} {xs : List D} {v : V} (h : Seen C ρ H (.ins c ns xs) v) : ∃ a A dx fs, v = .ref a ∧ C.mg c = some (.ref A) ∧ H a = some (.ins A dx fs) ∧ ns = fs.map (·.1) ∧ Reps C ρ H xs (fs.map (·.2)) := by
  rcases h with ⟨a, A, dx, fs, e, m, n, h, k, r⟩ | ⟨a, e, A, dx, fs, m, h, k, r⟩
  · exact ⟨a, A, dx, fs, e, m, h, k, r⟩
  · exact ⟨a, A, dx, fs, e, m, h, k, r⟩
end
section
variable {X : Cx} {W : WX} {pos pos' apos : Pos} {o e : Expr} {es : List Expr} {c f m x : Str} {fs : List Str} {fo fv : EF}
theorem pf_fld (T : ClX X.K X.mg c fs) (ho : PE X o (tE (cfg X) W fo)) (hf : f ∈ fs := by decide) (hb : attributeBase o f X.env (eval o X.env) = eval o X.env := by rfl) : PE X (.Attribute o f pos) (tE (cfg X) W (cFld c f fo)) := pe_imp (pe_fld ho hb) fun σ H Q ⟨ρ, env, ro, w, hS, hE, q⟩ => by
  refine tR_seq hS hE q fun d w1 v ρ1 H1 x1 s1 r1 q1 => ?_
  have sd := seen_of s1 r1
  have q2 : AfterR (cfg X) (Rep (cfg X)) W σ ρ1 H1 ro (gFld c f (see ro w1 d) ro w1) Q := q1
  generalize see ro w1 d = d' at sd q2
  unfold gFld at q2
  cases d' with
  | ins c' ns xs =>
    simp only at q2
    by_cases cc : c' = c
    · subst cc
      rw [if_pos rfl] at q2
      cases ef : fieldV ns xs f with
      | none => rw [ef] at q2; exact (show False from q2).elim
      | some y =>
        rw [ef] at q2
        obtain ⟨a, A, dx, fl, rfl, hm, ha, rfl, r⟩ := sd.ins
        obtain ⟨v', l, rv⟩ := fieldV_rep ef r
        obtain ⟨A', hm', cl, na⟩ := T.ex
        cases hm.symm.trans hm'
        exact ⟨a, A, dx, fl, v', rfl, ha, cl, na f hf, l, ok_same s1 rv q2⟩
    · rw [if_neg cc] at q2
      exact (show False from q2).elim
  | _ => exact (show False from q2).elim
theorem f_setF (T : ClX X.K X.mg c fs) (ho : PE X o (tE (cfg X) W fo)) (hv : PE X e (tE (cfg X) W fv)) (hf : f ∈ fs := by decide) (hs : swapsWith e (some (.Attribute o f pos')) pos.line X.env = pure false := by rfl) : PS X (.Assign [.Attribute o f pos'] e pos) (tS (cfg X) W (sSetF c f fo fv)) := ps_imp (ps_fld ho hv hs) fun D σ H ⟨ρ, env, ro, w, hS, hE, q⟩ => by
  refine tS_seq hS hE q fun dv w1 v ρ1 H1 x1 s1 e1 r1 q1 => ?_
  refine tS_seq s1 e1 q1 fun d w2 vo ρ2 H2 x2 s2 e2 r2 q2 => ?_
  have rv := Rep.ext x2 dv r1
  have q3 : AfterR (cfg X) (Rep (cfg X)) W σ ρ2 H2 ro (gSetF c f dv d ro w2) (fun _ H4 => D.nx σ H4) :=
    lift_after (f := fun _ => gSetF c f dv d) e2 q2 fun z w4 v4 ρ4 H4 x4 s4 e4 r4 q4 => q4 σ ρ4 H4 .refl s4 e4
  unfold gSetF at q3
  cases d with
  | ref n =>
    simp only at q3
    by_cases c1 : n < ro.length
    · rw [if_pos c1] at q3
      exact (show False from q3).elim
    · rw [if_neg c1] at q3
      obtain ⟨a, ha, rfl⟩ := r2
      cases eo : w2[n - ro.length]? with
      | none => rw [eo] at q3; exact (show False from q3).elim
      | some d0 =>
        rw [eo] at q3
        have hn : (ro ++ w2)[n]? = some d0 := by
          rw [List.getElem?_append_right (by omega)]
          exact eo
        cases d0 with
        | ins c' ns xs =>
          simp only at q3
          by_cases c2 : c' = c ∧ ns.length < 1000
          · rw [if_pos c2] at q3
            obtain ⟨rfl, hl⟩ := c2
            obtain ⟨A, dx, fl, hm, hH, rfl, r⟩ := s2.obj n a _ ha hn
            obtain ⟨A', hm', cl, na⟩ := T.ex
            cases hm.symm.trans hm'
            obtain ⟨g1, g2⟩ := putI_rep (f := f) rv r
            refine ⟨a, A, dx, fl, rfl, hH, cl, na f hf, by simpa using hl, ?_⟩
            exact ok_put (o := .ins A dx (putF f v fl)) (d := .ins c' (putI (fl.map (·.1)) xs f dv).1 (putI (fl.map (·.1)) xs f dv).2) (e := .non) (v := .non) s2 c1 ha (fun H' x' e' => ⟨A, dx, putF f v fl, hm, e', g1, Reps.ext x' _ g2⟩) rfl q3
          · rw [if_neg c2] at q3
            exact (show False from q3).elim
        | _ => exact (show False from q3).elim
  | _ => exact (show False from q3).elim
end
/-! ### what is called -/
/-- a call of what stands at A does what g says -/
def CallsTo (X : Cx) (A : Addr) (g : List D → M D) (np : Nat) : Prop := ∀ (pins : List (Addr × Obj)) (s : Shared) (σ : L2.St) (H : Hp) (us : List Value) (vs : List V) (Q : VK) (E : XK), PassesAt (L2.CX X.prog X.w) X σ E → Inv X pins σ H s → Vals vs us →
  spF (cfg X) g np vs H Q E → wpAny (model X.prog X.w) X.A (call (.ref A) us) (EP X pins σ Q) X.xe s
structure MakeOk (P : Program) (w : World) (K : PySem.W.Frag) (mg : Str → Option Value) (base : Heap) (n : Nat) (c : Str) (g : List D → M D) (np : Nat) : Prop where
  ex : ∃ A, mg c = some (.ref A) ∧ PySem.W.keepIn K (.ref A) = true ∧ ∀ X : Cx, X.prog = P → X.w = w → X.K = K → X.mg = mg → X.base = base → Room n X.A → CallsTo X A g np
abbrev MakeX (X : Cx) (n : Nat) (x : Str) (g : List D → M D) (np : Nat) : Prop := MakeOk X.prog X.w X.K X.mg X.base n x g np
/-- a method m of the class c -/
structure MethOk (P : Program) (w : World) (K : PySem.W.Frag) (mg : Str → Option Value) (base : Heap) (n : Nat) (c m : Str) (g : List D → M D) (np : Nat) : Prop where
  ex : ∃ A f, mg c = some (.ref A) ∧ Cls K A ∧ Meth K A m f ∧ ∀ X : Cx, X.prog = P → X.w = w → X.K = K → X.mg = mg → X.base = base → Room n X.A → CallsTo X f g np
abbrev MethX (X : Cx) (n : Nat) (c m : Str) (g : List D → M D) (np : Nat) : Prop := MethOk X.prog X.w X.K X.mg X.base n c m g np
/-- a new instance, its __init__ called -/
def mkD (c : Str) (g : List D → M D) : List D → M D := fun ds ro w => match g (.ref (ro.length + w.length) :: ds) ro (w ++ [.ins c [] []]) with
  | .ok .non w' => .ok (.ref (ro.length + w.length)) w'
  | .exn c ns xs w' => .exn c ns xs w'
  | _ => .no
def cMeth (c m : Str) (g : List D → M D) (fo : EF) (fs : Env → M (List D)) : EF := fun env => M.bind (fo env) fun o => M.bind (M.see o) fun o' => match o' with
  | .ins c' ns _ => if c' = c ∧ m ∉ ns then M.bind (fs env) fun ds => g (o :: ds) else M.no
  | _ => M.no
section
variable {X : Cx} {W : WX} {pos p apos : Pos} {o e : Expr} {es : List Expr} {c m x : Str} {fo : EF} {fs : Env → M (List D)} {g : List D → M D} {n np : Nat}
theorem pf_make (F : MakeX X n x g np) (hr : Room n X.A) (hx : PassW X W) (hg : Gl X x) (ha : PA X (e :: es) (tA (cfg X) W fs)) (hdb : (x == ("__debug__" : Str)) = false := by decide)
    (he : starEach (e :: es) X.env = (false, eval e X.env) :: starEach es X.env := by rfl) (hpl : (backTo pos (starEach es X.env)).any (·.1) = false := by rfl) : PE X (.Call (.Name x p) (e :: es) [] pos) (tE (cfg X) W (cCall (fun ds => if ds.length = np then g ds else M.no) fs)) := by
  obtain ⟨A, hm, hk, to⟩ := F.ex
  have to := to X rfl rfl rfl rfl rfl hr
  refine ⟨fun pins s σ H Q I ⟨ρ, env, ro, w, hS, hE, q⟩ => wpAny_Call_Name_kw (ld_glob I hg hm ?_ hdb)⟩
  have z : tA (cfg X) W fs σ H fun vs H1 => spF (cfg X) g np vs H1 Q (WE W σ) := by
    refine tR_seq hS hE q fun ds w1 vs ρ1 H1 x1 s1 r1 q1 => ?_
    by_cases c : ds.length = np
    · rw [if_pos c] at q1
      exact ⟨ρ1, ds, ro, w1, by rw [← r1.len]; exact c, s1, r1, q1.sig⟩
    · rw [if_neg c] at q1
      exact (show False from q1).elim
  exact PySem.W.callWith_K (h₀ := X.base) I.ok.mod.kin hk (thn (ha.run pos pins s σ H _ I z) fun us s1 ⟨vs, H1, I1, r, q1⟩ => ⟨I1.kIn, to pins s1 σ H1 us vs Q (WE W σ) (hx σ) I1 r q1⟩) he hpl
theorem meth_read {Q : VK} {σ : L2.St} {H : Hp} {A : Addr} (hm : X.mg c = some (.ref A)) (q : tE (cfg X) W (cMeth c m (fun ds : List D => if ds.length = np then g ds else M.no) fo fs) σ H Q) : tE (cfg X) W fo σ H fun x H1 => ∃ a dx fl, x = .ref a ∧ H1 a = some (.ins A dx fl) ∧ fl.lookup m = none ∧
    tA (cfg X) W fs σ H1 fun vs H2 => spF (cfg X) g np (x :: vs) H2 Q (WE W σ) := by
  obtain ⟨ρ, env, ro, w, hS, hE, q⟩ := q
  refine tR_seq hS hE q fun d w1 v ρ1 H1 x1 s1 r1 q1 => ?_
  have sd := seen_of s1 r1
  replace q1 : AfterR (cfg X) (Rep (cfg X)) W σ ρ1 H1 ro ((match see ro w1 d with
    | .ins c' ns _ => if c' = c ∧ m ∉ ns then M.bind (fs env) fun ds => (fun ds : List D => if ds.length = np then g ds else M.no) (d :: ds) else M.no
    | _ => M.no) ro w1) Q := q1
  generalize see ro w1 d = d' at sd q1
  cases d' with
  | ins c' ns xs =>
    simp only at q1
    by_cases cc : c' = c ∧ m ∉ ns
    · rw [if_pos cc] at q1
      obtain ⟨rfl, nm⟩ := cc
      obtain ⟨a, A', dx, fl, rfl, hm', ha, rfl, r⟩ := sd.ins
      cases hm.symm.trans hm'
      refine ⟨a, dx, fl, rfl, ha, ?_, ?_⟩
      · cases e : fl.lookup m with
        | none => rfl
        | some z =>
          exfalso
          apply nm
          clear r ha sd q1 nm
          induction fl with
          | nil => cases e
          | cons p fl ih =>
            rw [List.lookup_cons] at e
            by_cases k : m = p.1
            · rw [k]
              exact List.mem_cons_self
            · rw [beq_eq_false_iff_ne.mpr k] at e
              exact List.mem_cons_of_mem _ (ih e)
      · refine tR_seq s1 (hE.ext x1) q1 fun ds w2 vs ρ2 H2 x2 s2 r2 q2 => ?_
        have q3 : AfterR (cfg X) (Rep (cfg X)) W σ ρ2 H2 ro ((if (d :: ds).length = np then g (d :: ds) else M.no) ro w2) Q := q2
        by_cases cl : (d :: ds).length = np
        · rw [if_pos cl] at q3
          have r3 : Reps (cfg X) ρ2 H2 (d :: ds) (.ref a :: vs) := ⟨_, _, rfl, Rep.ext x2 d r1, r2⟩
          exact ⟨ρ2, d :: ds, ro, w2, by rw [← r3.len]; exact cl, s2, r3, q3.sig⟩
        · rw [if_neg cl] at q3
          exact (show False from q3).elim
    · rw [if_neg cc] at q1
      exact (show False from q1).elim
  | _ => exact (show False from q1).elim
theorem pf_meth {pl : Sem Bool} (F : MethX X n c m g np) (hr : Room n X.A) (hx : PassW X W) (ho : PE X o (tE (cfg X) W fo)) (ha : PA X (e :: es) (tA (cfg X) W fs))
    (hst : starEach (e :: es) X.env = (false, eval e X.env) :: starEach es X.env := by rfl) (hpl : (backTo pos (starEach es X.env)).any (·.1) = false := by rfl)
    (ht : eval (.Call (.Attribute o m apos) (e :: es) [] pos) X.env = (do let ov ← eval o X.env; standAt apos.atName; let (f, first) ← holding [ov] (getMethod ov m pl); callWith pos f first (backTo pos (starEach (e :: es) X.env)) (backToKw pos (keywordEach [] X.env))) := by rfl) :
    PE X (.Call (.Attribute o m apos) (e :: es) [] pos) (tE (cfg X) W (cMeth c m (fun ds => if ds.length = np then g ds else M.no) fo fs)) := by
  obtain ⟨A, f, hm, cl, mt, to⟩ := F.ex
  have to := to X rfl rfl rfl rfl rfl hr
  refine ⟨fun pins s σ H Q I q => PySem.W.methodCall_KW (pl := pl) (thn (ho.run pins s σ H _ I (meth_read hm q)) fun u s1 ⟨x, H1, I1, rx, a, dx, fl, ex, ea, l, q1⟩ => ?_) ht⟩
  subst ex
  obtain rfl : u = Value.ref a := rx
  refine getmeth_ok I1 ea cl mt l (PySem.W.callWith_K (first := [.ref a]) (h₀ := X.base) I.ok.mod.kin mt.kp (thn (ha.run pos pins s1 σ H1 _ I1 q1) fun us s2 ⟨vs, H2, I2, r, q2⟩ => ⟨I2.kIn, ?_⟩) hst hpl)
  exact to pins s2 σ H2 (.ref a :: us) (.ref a :: vs) Q (WE W σ) (hx σ) I2 (.cons rfl r) q2
theorem pf_meth0 {pl : Sem Bool} (F : MethX X n c m g np) (hr : Room n X.A) (hx : PassW X W) (ho : PE X o (tE (cfg X) W fo))
    (ht : eval (.Call (.Attribute o m apos) [] [] pos) X.env = (do let ov ← eval o X.env; standAt apos.atName; let (f, first) ← holding [ov] (getMethod ov m pl); callWith pos f first (backTo pos (starEach [] X.env)) (backToKw pos (keywordEach [] X.env))) := by rfl) :
    PE X (.Call (.Attribute o m apos) [] [] pos) (tE (cfg X) W (cMeth c m (fun ds => if ds.length = np then g ds else M.no) fo (cArgs []))) := by
  obtain ⟨A, f, hm, cl, mt, to⟩ := F.ex
  have to := to X rfl rfl rfl rfl rfl hr
  refine ⟨fun pins s σ H Q I q => PySem.W.methodCall_KW (pl := pl) (thn (ho.run pins s σ H _ I (meth_read hm q)) fun u s1 ⟨x, H1, I1, rx, a, dx, fl, ex, ea, l, q1⟩ => ?_) ht⟩
  subst ex
  obtain rfl : u = Value.ref a := rx
  obtain ⟨ρ, env, ro, w, hS, hE, q2⟩ := q1
  refine getmeth_ok I1 ea cl mt l (PySem.W.callWith_K0 (first := [.ref a]) I1.kIn mt.kp ?_)
  exact to pins s1 σ H1 [.ref a] [.ref a] Q (WE W σ) (hx σ) I1 (.cons rfl .nil) (q2 [] ρ H1 .refl hS rfl)
end
/-! ### what is called does what the def says -/
section
variable {X : Cx} {g : List D → M D} {np : Nat}
theorem after_pure {C : Cfg} {W : WX} {σ : L2.St} {ρ : Zn} {H : Hp} {ro v ds : List D} {Q : VK} (hS : RepS C ρ H (ro ++ v)) (q : AfterR C (Rep C) W σ ρ H ro (pureD g ds ro v) Q) : AfterR C (Rep C) W σ ρ H (ro ++ v) (g ds (ro ++ v) []) Q := by
  have hlen : ρ.r.length = (ro ++ v).length := hS.len
  have back : ∀ {ρ' : Zn} {H' : Hp} {w' : List D}, Ext ρ ρ' H H' → RepS C ρ' H' ((ro ++ v) ++ w') → Ext ρ (ρ'.take (ro ++ v).length) H H' ∧ RepS C (ρ'.take (ro ++ v).length) H' (ro ++ v) := by
    intro ρ' H' w' x s
    have hl : w'.length ≥ ([] : List D).length := Nat.zero_le _
    obtain ⟨a, b⟩ := tell_back (ro := ro ++ v) (w := []) (w' := w') (w2 := []) (by rw [List.append_nil]; exact hS) (by unfold cutW; rw [if_pos ⟨Nat.zero_le _, rfl⟩]; rfl) x s
    rw [List.append_nil] at b
    exact ⟨a, b⟩
  unfold pureD at q
  cases e : g ds (ro ++ v) [] with
  | no =>
    simp only [e] at q
    exact q
  | ok d w' =>
    simp only [e] at q
    cases et : D.tell (told (ro ++ v).length w' 4) d with
    | none =>
      simp only [et] at q
      exact (show False from q).elim
    | some d' =>
      simp only [et] at q
      intro u ρ' H' x s r
      obtain ⟨x2, s2⟩ := back x s
      exact q u _ H' x2 s2 (Rep.tell (told_ok s 4) d et r)
  | exn c ns xs w' =>
    simp only [e] at q
    cases et : D.tells (told (ro ++ v).length w' 4) xs with
    | none =>
      simp only [et] at q
      exact (show False from q).elim
    | some xs' =>
      simp only [et] at q
      intro cls dx ρ' H' x s r
      obtain ⟨x2, s2⟩ := back x s
      exact q cls dx _ H' x2 s2 (RepX.tell (told_ok s 4) et r)
theorem CallsTo.pure {A : Addr} (h : CallsTo X A g np) : CallsTo X A (pureD g) np := by
  intro pins s σ H us vs Q E hx I r ⟨ρ, ds, ro, w, hl, hS, hR, q⟩
  exact h pins s σ H us vs Q E hx I r ⟨ρ, ds, ro ++ w, [], hl, by rw [List.append_nil]; exact hS, hR, after_pure hS q⟩
theorem calls_no {A : Addr} : CallsTo X A (fun _ => M.no) np := by
  rintro pins s σ H us vs Q E hx I r ⟨ρ, ds, ro, w, hl, hS, hR, q⟩
  exact (show False from q).elim
theorem CallsTo.fn {f : Addr} {fd : FuncData} {ps : List Str} {k : Nat} (F : FnOk X.prog X.w X.K X.mg X.base (L2.CX X.prog X.w) k f fd ps (spF (cfg X) g np)) (hb : Binds X.K fd ps []) (hr : Room k X.A) : CallsTo X f g np :=
  fun pins s σ H us vs Q E hx I r q => run_fnS (E := fun _ => E) F hr hb hx I r q
theorem run_mk {f A : Addr} {fd : FuncData} {ps : List Str} {k : Nat} {sp : Sp} {E : XK} {pins : List (Addr × Obj)} {σ : L2.St} {H : Hp} {s : Shared} {Q : VK} {us : List Value} {vs : List V} (M : Mk X.K A f) (F : FnOk X.prog X.w X.K X.mg X.base (L2.CX X.prog X.w) k f fd ps sp) (hr : Room (k + 1) X.A) (hb : Binds X.K fd ps [])
    (hx : PassesAt (L2.CX X.prog X.w) X σ E) (I : Inv X pins σ H s) (r : Vals vs us)
    (h : ∀ x dx, H x = none → H dx = none → dx ≠ x → sp (.ref x :: vs) (upd (upd H dx (.own x)) x (.ins A dx [])) (fun v H2 => v = .non ∧ Q (.ref x) H2) E) :
    wpAny (model X.prog X.w) X.A (call (.ref A) us) (EP X pins σ Q) X.xe s := by
  have I2 := Inv.made (C := A) I
  have q0 := h (s.heap.objs.size + 1) s.heap.objs.size (I.hok.fresh (Nat.le_succ _)) (I.hok.fresh (Nat.le_refl _)) (Nat.ne_of_lt (Nat.lt_succ_self _))
  have r2 : Vals (V.ref (s.heap.objs.size + 1) :: vs) (Value.ref (s.heap.objs.size + 1) :: us) := .cons rfl r
  have hl : (Value.ref (s.heap.objs.size + 1) :: us).length = ps.length := r2.length.symm.trans (F.len _ _ _ _ q0)
  have bt := hb _ (Value.ref (s.heap.objs.size + 1) :: us) I2.kIn (by rw [List.append_nil]; exact hl)
  rw [List.append_nil] at bt
  have rn := F.run _ X.stack _ _ ⟨Value.ref (s.heap.objs.size + 1) :: us, []⟩ (Value.ref (s.heap.objs.size + 1) :: us) _ _ E (hr.make A us []) (I2.env0.make A us []) bt r2 q0
  refine wpAny_call (make_map (f := f) I.kIn M.makes M.init (beq_iff_eq.mp M.fn) (codeAny_mono rn fun y s' hq => ?_))
  cases y with
  | error e => exact hx pins _ _ e s' I2 hq
  | ok fl =>
    cases fl with
    | ret u =>
      obtain ⟨v, H', I3, rv, ev, q3⟩ := I2.after hq
      subst ev
      exact ⟨rv, ⟨V.ref (s.heap.objs.size + 1), H', I3, rfl, q3⟩⟩
    | next => exact False.elim hq
    | brk => exact False.elim hq
    | cont => exact False.elim hq
theorem CallsTo.mk {f A : Addr} {fd : FuncData} {ps : List Str} {k : Nat} {c : Str} (hm : X.mg c = some (.ref A)) (M : Mk X.K A f) (F : FnOk X.prog X.w X.K X.mg X.base (L2.CX X.prog X.w) k f fd ps (spF (cfg X) g (np + 1))) (hb : Binds X.K fd ps []) (hr : Room (k + 1) X.A) : CallsTo X A (mkD c g) np := by
  rintro pins s σ H us vs Q E hx I r ⟨ρ, ds, ro, w, hl, hS, hR, q⟩
  refine run_mk M F hr hb hx I r fun x dx hxn hdn ne => ?_
  have x1 : Ext ρ ρ H (upd H dx (.own x)) := ext_new hS hdn
  have s1 : RepS (cfg X) ρ (upd H dx (.own x)) (ro ++ w) := reps_new hS hdn
  have hx1 : (upd H dx (.own x)) x = none := by rw [upd_ne (Ne.symm ne)]; exact hxn
  have x2 : Ext ρ ⟨ρ.r ++ [x], ρ.h⟩ (upd H dx (.own x)) (upd (upd H dx (.own x)) x (.ins A dx [])) := ext_mut s1 hx1
  have s2 : RepS (cfg X) ⟨ρ.r ++ [x], ρ.h⟩ (upd (upd H dx (.own x)) x (.ins A dx [])) (ro ++ (w ++ [.ins c [] []])) := by
    rw [← List.append_assoc]
    exact reps_mut s1 hx1 ⟨A, dx, [], hm, upd_same, rfl, rfl⟩
  have e : ρ.r.length = ro.length + w.length := by rw [hS.len, List.length_append]
  have rx : Rep (cfg X) ⟨ρ.r ++ [x], ρ.h⟩ (upd (upd H dx (.own x)) x (.ins A dx [])) (.ref (ro.length + w.length)) (.ref x) := ⟨x, by
    show (ρ.r ++ [x])[_]? = _
    rw [← e, List.getElem?_append_right (Nat.le_refl _), Nat.sub_self]
    rfl, rfl⟩
  have x3 := x1.trans x2
  refine ⟨_, .ref (ro.length + w.length) :: ds, ro, w ++ [.ins c [] []], by simp [hl], s2, ⟨_, _, rfl, rx, Reps.ext x3 ds hR⟩, ?_⟩
  unfold mkD at q
  cases eo : g (.ref (ro.length + w.length) :: ds) ro (w ++ [.ins c [] []]) with
  | no => rw [eo] at q; exact (show False from q).elim
  | exn c' ns xs w' =>
    rw [eo] at q
    exact fun cls dx' ρ' H' y s r => q cls dx' ρ' H' (x3.trans y) s r
  | ok d w' =>
    rw [eo] at q
    cases d with
    | non =>
      intro v ρ' H' y s rv
      exact ⟨rv, q (.ref x) ρ' H' (x3.trans y) s (Rep.ext y (.ref (ro.length + w.length)) rx)⟩
    | _ => exact (show False from q).elim
end
section
variable {P : Program} {w : World} {K : PySem.W.Frag} {mg : Str → Option Value} {base : Heap} {n np : Nat} {c m : Str} {g : List D → M D}
theorem make_no {A : Addr} (hm : mg c = some (.ref A)) (hk : PySem.W.keepIn K (.ref A) = true) : MakeOk P w K mg base n c (fun _ => M.no) np := ⟨A, hm, hk, fun X _ _ _ _ _ _ => calls_no⟩
theorem make_ok {A f : Addr} {fd : FuncData} {ps : List Str} (hm : mg c = some (.ref A)) (M : Mk K A f) (F : FnOk P w K mg base (L2.CX P w) n f fd ps (spF ⟨K, mg, w⟩ g (np + 1))) (hb : Binds K fd ps []) : MakeOk P w K mg base (n + 1) c (mkD c g) np :=
  ⟨A, hm, M.kp, fun X e1 e2 e3 e4 e5 hr => by
    subst e1 e2 e3 e4 e5
    exact CallsTo.mk hm M F hb hr⟩
theorem meth_no {A f : Addr} (hm : mg c = some (.ref A)) (cl : Cls K A) (mt : Meth K A m f) : MethOk P w K mg base n c m (fun _ => M.no) np := ⟨A, f, hm, cl, mt, fun X _ _ _ _ _ _ => calls_no⟩
theorem meth_ok {A f : Addr} {fd : FuncData} {ps : List Str} (hm : mg c = some (.ref A)) (cl : Cls K A) (mt : Meth K A m f) (F : FnOk P w K mg base (L2.CX P w) n f fd ps (spF ⟨K, mg, w⟩ g np)) (hb : Binds K fd ps []) : MethOk P w K mg base n c m g np :=
  ⟨A, f, hm, cl, mt, fun X e1 e2 e3 e4 e5 hr => by
    subst e1 e2 e3 e4 e5
    exact CallsTo.fn F hb hr⟩
theorem make_pure (h : MakeOk P w K mg base n c g np) : MakeOk P w K mg base n c (pureD g) np := by
  obtain ⟨A, h1, h2, h3⟩ := h.ex
  exact ⟨A, h1, h2, fun X e1 e2 e3 e4 e5 hr => (h3 X e1 e2 e3 e4 e5 hr).pure⟩
theorem meth_pure (h : MethOk P w K mg base n c m g np) : MethOk P w K mg base n c m (pureD g) np := by
  obtain ⟨A, f, h1, h2, h3, h4⟩ := h.ex
  exact ⟨A, f, h1, h2, h3, fun X e1 e2 e3 e4 e5 hr => (h4 X e1 e2 e3 e4 e5 hr).pure⟩
end
/-! ### what they give -/
section
variable {ro w : List D} {env : Env} {fo fv : EF} {fs : Env → M (List D)} {c f m : Str} {g : List D → M D}
@[simp] theorem x_fld : cFld c f fo env ro w = (fo env ro w).an fun d w1 => gFld c f (see ro w1 d) ro w1 := by
  show M.bind (fo env) _ ro w = _
  simp
theorem fld_ins {ns : List Str} {xs : List D} {x : D} (h : fieldV ns xs f = some x) : gFld c f (.ins c ns xs) ro w = .ok x w := by
  unfold gFld
  simp only [if_pos, h]
  rfl
@[simp] theorem x_setF : sSetF c f fo fv env ro w = (fv env ro w).st env fun v w1 => (fo env ro w1).st env fun o w2 => (gSetF c f v o ro w2).st env fun _ w3 => .go .nx env w3 := by
  refine x_lift.trans (congrArg _ ?_)
  funext v w1
  refine x_lift.trans (congrArg _ ?_)
  funext o w2
  exact x_lift
theorem setF_at {v : D} {n : Nat} {ns : List Str} {xs : List D} (hn : ¬ n < ro.length) (h : w[n - ro.length]? = some (.ins c ns xs)) (hl : ns.length < 1000) : gSetF c f v (.ref n) ro w = .ok .non (w.set (n - ro.length) (.ins c (putI ns xs f v).1 (putI ns xs f v).2)) := by
  unfold gSetF
  simp [hn, h, hl]
theorem x_meth {ns : List Str} {xs : List D} {o : D} {w1 : List D} (h : fo env ro w = .ok o w1) (ho : see ro w1 o = .ins c ns xs) (hm : m ∉ ns) : cMeth c m g fo fs env ro w = (fs env ro w1).an fun ds w2 => g (o :: ds) ro w2 := by
  show M.bind (fo env) _ ro w = _
  rw [x_bind, h, an_ok]
  simp [ho, hm]
end
end Fx
/-! A constant table; what a suite returns; a < b < c; bits; x, y = e. -/
namespace Fx
open PySem PySem.Spec L2
/-! ### a constant dict with text keys -/
def KD (C : Cfg) (d : D) (v : V) : Prop := ∀ ρ H, Rep C ρ H d v
def KDs (C : Cfg) (ds : List D) (vs : List V) : Prop := ∀ ρ H, Reps C ρ H ds vs
theorem kds_nil {C : Cfg} : KDs C [] [] := fun _ _ => rfl
theorem kds_cons {C : Cfg} {d : D} {v : V} {ds : List D} {vs : List V} (h : KD C d v) (r : KDs C ds vs) : KDs C (d :: ds) (v :: vs) := fun ρ H => ⟨v, vs, rfl, h ρ H, r ρ H⟩
theorem kd_int {C : Cfg} {i : Int} : KD C (.int i) (.int i) := fun _ _ => rfl
theorem kd_tup {C : Cfg} {ds : List D} {vs : List V} {t : Addr} {dd : Option Addr} {sl : Array (Option Value)} {ep : Nat} {its : List Value} (hk : C.K.lookup t = some ⟨.type "tuple", dd, .seq its.toArray ep, sl⟩) (hv : Vals vs its) (hl : vs.length ≤ 1000) (r : KDs C ds vs) : KD C (.tup ds) (.ref t) := fun ρ H => by
  have e := hv.length
  exact ⟨t, vs, rfl, .inr ⟨_, its.toArray, ep, hk, rfl, rfl, by rw [List.size_toArray, ← e]; exact Nat.le_of_lt (small1000 hl), by simpa using hv⟩, r ρ H⟩
structure TabK (C : Cfg) (x : Str) (rows : List (Str × D)) : Prop where
  ex : ∃ p, C.mg x = some (.ref p) ∧ ∀ q ∈ rows, ∃ v, KDct C.K C.w p q.1 v ∧ KD C q.2 v
def tabV : List (Str × D) → Str → Option D
  | [], _ => none
  | q :: r, x => if x = q.1 then some q.2 else tabV r x
theorem tabV_mem {x : Str} {d : D} : ∀ {rows : List (Str × D)}, tabV rows x = some d → (x, d) ∈ rows
  | [], h => by cases h
  | q :: r, h => by
    unfold tabV at h
    split at h
    · rename_i c
      cases h
      rw [c]
      exact List.mem_cons_self
    · exact List.mem_cons_of_mem _ (tabV_mem h)
def gTab (rows : List (Str × D)) (d : D) : M D := match d with
  | .str x => (match tabV rows x with
    | some v => M.pure v
    | none => M.no)
  | _ => M.no
def cTab (rows : List (Str × D)) (fe : EF) : EF := fun env => M.bind (fe env) fun d => M.bind (M.see d) fun d => gTab rows d
section
variable {X : Cx} {W : WX} {pos pos' : Pos} {a b e o : Expr} {x : Str} {rows : List (Str × D)} {fa fb fc fe : EF} {ta tb tc : Fx.Env → M Bool}
theorem pf_tab (T : TabK (cfg X) x rows) (hg : Gl X x) (he : PE X e (tE (cfg X) W fe)) (hs : PlainIx e) (hd : (x == ("__debug__" : Str)) = false := by decide) : PE X (.Subscript (.Name x pos') e pos) (tE (cfg X) W (cTab rows fe)) := by
  obtain ⟨p, hm, hr⟩ := T.ex
  refine pe_imp (pe_ix ix_kdict (pe_glob (v := .ref p) hg hm rfl hd) he hs) fun σ H Q ⟨ρ, env, ro, w, hS, hE, q⟩ => ?_
  refine tR_seq hS hE q fun d w1 v ρ1 H1 x1 s1 r1 q1 => ?_
  have sd := seen_of s1 r1
  have q2 : AfterR (cfg X) (Rep (cfg X)) W σ ρ1 H1 ro (gTab rows (see ro w1 d) ro w1) Q := q1
  generalize see ro w1 d = d' at sd q2
  unfold gTab at q2
  cases d' with
  | str z =>
    simp only at q2
    cases et : tabV rows z with
    | none => rw [et] at q2; exact (show False from q2).elim
    | some y =>
      rw [et] at q2
      obtain ⟨v', k1, k2⟩ := hr _ (tabV_mem et)
      exact ⟨p, z, v', rfl, sd.str, k1, ok_same s1 (k2 _ _) q2⟩
  | _ => exact (show False from q2).elim
end
section
variable {ro w : List D} {env : Fx.Env} {fe : EF} {rows : List (Str × D)}
@[simp] theorem x_tab : cTab rows fe env ro w = (fe env ro w).an fun d w1 => gTab rows (see ro w1 d) ro w1 := by
  show M.bind (fe env) _ ro w = _
  simp
theorem tab_str {x : Str} {d : D} (h : tabV rows x = some d) : gTab rows (.str x) ro w = .ok d w := by
  unfold gTab
  simp only [h]
  rfl
end
/-! ### what a suite returns -/
section
variable {X : Cx} {P : L2.St → Prop} {W : WX} {C : Cfg} {a b e : Expr} {rest : List Expr} {pos : Pos} {fa fb : EF}
theorem pfp_one {op} (h : PE X a (tEp P (tE C W fa))) : PE X (.BoolOp op [a] pos) (tEp P (tE C W fa)) := pe_one h
theorem pfp_and (ha : PE X a (tEp P (tE C W fa))) (hb : PE X (.BoolOp .And (b :: rest) pos) (tEp P (tE C W fb))) : PE X (.BoolOp .And (a :: b :: rest) pos) (tEp P (tE C W (cAnd fa fb))) := pe_imp (pe_and ha hb) fun σ H Q ⟨p, ρ, env, ro, w, hS, hE, q⟩ => by
  refine ⟨p, tR_seq hS hE q fun d w1 v ρ1 H1 x1 s1 r1 q1 => ?_⟩
  cases d with
  | bl k =>
    refine ⟨k, r1, ?_⟩
    cases k with
    | true => exact ⟨p, ρ1, env, ro, w1, s1, hE.ext x1, q1⟩
    | false => exact ok_bl s1 q1
  | _ => exact (show False from q1).elim
theorem pfp_or (ha : PE X a (tEp P (tE C W fa))) (hb : PE X (.BoolOp .Or (b :: rest) pos) (tEp P (tE C W fb))) : PE X (.BoolOp .Or (a :: b :: rest) pos) (tEp P (tE C W (cOr fa fb))) := pe_imp (pe_or ha hb) fun σ H Q ⟨p, ρ, env, ro, w, hS, hE, q⟩ => by
  refine ⟨p, tR_seq hS hE q fun d w1 v ρ1 H1 x1 s1 r1 q1 => ?_⟩
  cases d with
  | bl k =>
    refine ⟨k, r1, ?_⟩
    cases k with
    | true => exact ok_bl s1 q1
    | false => exact ⟨p, ρ1, env, ro, w1, s1, hE.ext x1, q1⟩
  | _ => exact (show False from q1).elim
theorem pfp_not (ha : PE X a (tEp P (tE C W fa))) : PE X (.UnaryOp .Not a pos) (tEp P (tE C W (cNot fa))) := pe_imp (pe_not ha) fun σ H Q ⟨p, ρ, env, ro, w, hS, hE, q⟩ => by
  refine ⟨p, tR_seq hS hE q fun d w1 v ρ1 H1 x1 s1 r1 q1 => ?_⟩
  cases d with
  | bl k => exact ⟨k, r1, ok_bl s1 q1⟩
  | _ => exact (show False from q1).elim
/-- isinstance(e, C) as a value -/
theorem pfp_isT {i : Nat} {cs us : List Str} {sub : Str → Str → Bool} {c' cn en : Str} {A : Addr} {oe : Obj} {cls : Value} {d : Option Addr} {pn : List (Addr × Obj)} {p q1 q2 : Pos} (T : ExT X.K X.mg cs us sub) (hc : c' ∈ cs) (hu : cn ∈ us) (hz : Zc cls d oe) (hf : ∃ vs, oe.data = .fields vs) (hg : Gl (X.suite A ((A, oe) :: pn)) "isinstance") (hm : X.mg "isinstance" = none) (hgc : Gl (X.suite A ((A, oe) :: pn)) cn)
    (hN : X.N[i]? = some en := by rfl) (hv : Vis X.env.scope en := by first | exact Or.inl rfl | exact Or.inr (Or.inl rfl) | exact Or.inr (Or.inr rfl)) (hd : (en == ("__debug__" : Str)) = false := by decide) (hcd : (en == ("__classdict__" : Str)) = false := by decide) (hdc : (cn == ("__debug__" : Str)) = false := by decide)
    (hs1 : starEach [.Name en q1, .Name cn q2] X.env = (false, eval (.Name en q1) X.env) :: starEach [.Name cn q2] X.env := by rfl) (hs2 : starEach [.Name cn q2] X.env = (false, eval (.Name cn q2) X.env) :: starEach [] X.env := by rfl) (hpl : (backTo pos (starEach [.Name cn q2] X.env)).any (·.1) = false := by rfl) :
    PE (X.suite A ((A, oe) :: pn)) (.Call (.Name "isinstance" p) [.Name en q1, .Name cn q2] [] pos) (tEp (Pc X i c' A cls d) (tE C W (cK (.bl (sub c' cn))))) := by
  obtain ⟨C2, h2⟩ := T.na cn hu
  refine ⟨fun pins s σ H Q I ⟨⟨hσ, ⟨B, hB, hcl⟩, hdn⟩, ρ, env, ro, w, hS, hE, q⟩ => ?_⟩
  subst hcl hdn
  have pe := pe_callB (pos := pos) (p := p) (call_isE (a := A) (pn := pn) ((T.ad c' hc).2 B hB) hz hf) hg hm PyProof.Rows.boot_isinstance (pa_cons (pe_var (X := X.suite A ((A, oe) :: pn)) (pos := q1) hN hv hd hcd) (pa_cons (pe_glob (X := X.suite A ((A, oe) :: pn)) (pos := q2) (v := .ref C2) hgc h2 rfl hdc) pa_nil hs2) hs1) (by decide) (by decide) hs1 hpl
  refine pe.run pins s σ H Q I ?_
  exact ⟨.ref A, hσ, .ref C2, .ref C2, sub c' cn, rfl, fun u hu => hu, (T.pr c' hc cn hu B C2 hB h2).2, q (.bl (sub c' cn)) ρ H .refl hS rfl⟩
end
/-! ### a < b < c -/
def cChain (g g' : D → D → M D) (fa fb fc : EF) : EF := fun env => M.bind (fa env) fun a => M.bind (fb env) fun b => M.bind (M.bind (M.see a) fun a' => M.bind (M.see b) fun b' => g a' b') fun z => match z with
  | .bl true => M.bind (fc env) fun c => M.bind (M.see b) fun b' => M.bind (M.see c) fun c' => g' b' c'
  | .bl false => M.pure (.bl false)
  | _ => M.no
section
variable {X : Cx} {W : WX} {C : Cfg} {pos : Pos} {a b c : Expr} {fa fb fc : EF} {op op' : CmpOp} {r r' : R2} {g g' : D → D → M D}
theorem tE_chain (hr : Ok2 C r g) (hr' : Ok2 C r' g') {σ : L2.St} {H : Hp} {Q : VK} (q : tE C W (cChain g g' fa fb fc) σ H Q) : tChain r r' (tE C W fa) (tE C W fb) (tE C W fc) σ H Q := by
  obtain ⟨ρ, env, ro, w, hS, hE, q⟩ := q
  refine tR_seq hS hE q fun da w1 va ρ1 H1 x1 s1 r1 q1 => ?_
  refine tR_seq s1 (hE.ext x1) q1 fun db w2 vb ρ2 H2 x2 s2 r2 q2 => ?_
  have sa := seen_of s2 (Rep.ext x2 da r1)
  have sb := seen_of s2 r2
  refine hr W σ ρ2 H2 ro w2 _ _ va vb _ s2 sa sb ?_
  have q3 : AfterR C (Rep C) W σ ρ2 H2 ro ((g (see ro w2 da) (see ro w2 db) ro w2).an fun z w3 => (match z with
      | .bl true => M.bind (fc env) fun c => M.bind (M.see db) fun b' => M.bind (M.see c) fun c' => g' b' c'
      | .bl false => M.pure (.bl false)
      | _ => M.no) ro w3) Q := by
    have q2' := q2
    simp only [x_bind, x_see, an_ok] at q2' ⊢
    exact q2'
  cases eg : g (see ro w2 da) (see ro w2 db) ro w2 with
  | no => rw [eg] at q3; exact q3
  | exn c ns xs w3 => rw [eg] at q3; exact q3
  | ok z w3 =>
    rw [eg] at q3
    intro v ρ3 H3 x3 s3 r3
    cases z with
    | bl k =>
      refine ⟨k, r3, ?_⟩
      cases k with
      | true =>
        rw [if_pos rfl]
        refine tR_seq s3 (((hE.ext x1).ext x2).ext x3) (AfterR.ext x3 q3) fun dc w4 vc ρ4 H4 x4 s4 r4 q4 => ?_
        exact hr' W σ ρ4 H4 ro w4 _ _ vb vc Q s4 (seen_of s4 (Rep.ext x4 db (Rep.ext x3 db r2))) (seen_of s4 r4) q4
      | false =>
        rw [if_neg (by decide)]
        exact ok_bl s3 (AfterR.ext x3 q3)
    | _ => exact (show False from q3).elim
theorem pf_chain (ho : OpR X (compareOp op) r) (hr : Ok2 C r g) (ho' : OpR X (compareOp op') r') (hr' : Ok2 C r' g') (ha : PE X a (tE C W fa)) (hb : PE X b (tE C W fb)) (hc : PE X c (tE C W fc))
    (hm : lastMarks [op, op'] [b, c] = false := by with_unfolding_all rfl) : PE X (.Compare a [op, op'] [b, c] pos) (tE C W (cChain g g' fa fb fc)) := pe_imp (pe_chain ho ho' ha hb hc hm) fun _ _ _ q => tE_chain hr hr' q
theorem pt_chainF (ho : OpR X (compareOp op) r) (hr : Ok2 C r g) (ho' : OpR X (compareOp op') r') (hr' : Ok2 C r' g') (ha : PE X a (tE C W fa)) (hb : PE X b (tE C W fb)) (hc : PE X c (tE C W fc))
    (hm : lastMarks [op, op'] [b, c] = false := by with_unfolding_all rfl) : PT X (.Compare a [op, op'] [b, c] pos) (tT C W (cTest (cChain g g' fa fb fc))) := pt_imp (pt_chain ho ho' ha hb hc hm) fun σ H Q ⟨ρ, env, ro, w, hS, hE, q⟩ => by
  refine tE_chain hr hr' ⟨ρ, env, ro, w, hS, hE, ?_⟩
  unfold cTest M.bind at q
  cases e : cChain g g' fa fb fc env ro w with
  | ok d w1 =>
    rw [e] at q
    intro v ρ1 H1 x1 s1 r1
    cases d with
    | bl k => exact ⟨k, r1, q k ρ1 H1 x1 s1 rfl⟩
    | _ => exact (show False from q).elim
  | exn c ns xs w1 =>
    rw [e] at q
    exact q
  | no => rw [e] at q; exact q
end
/-! ### bits -/
def gBand (x y : D) : M D := match x, y with
  | .int i, .int j => M.pure (.int (Builtin.bitAnd i j))
  | _, _ => M.no
def gBor (x y : D) : M D := match x, y with
  | .int i, .int j => M.pure (.int (Builtin.bitOr i j))
  | _, _ => M.no
def gShr (x y : D) : M D := match x, y with
  | .int i, .int j => if j = (j.natAbs : Int) then M.pure (.int (i / 2 ^ j.toNat)) else M.no
  | _, _ => M.no
def gShl (x y : D) : M D := match x, y with
  | .int i, .int j => if j = (j.natAbs : Int) ∧ j.natAbs ≤ 1000000 ∧ i.natAbs < 2 ^ 64 then M.pure (.int (i * 2 ^ j.toNat)) else M.no
  | _, _ => M.no
theorem ok2_band {C : Cfg} : Ok2 C (rI0 fun i j => .int (Builtin.bitAnd i j)) gBand := ok2_I0 (k := fun i j => .int (Builtin.bitAnd i j)) (fun d e => by cases d <;> cases e <;> first | exact .inr rfl | exact .inl ⟨_, _, rfl, rfl, rfl⟩) fun _ _ _ _ => rfl
theorem ok2_bor {C : Cfg} : Ok2 C (rI0 fun i j => .int (Builtin.bitOr i j)) gBor := ok2_I0 (k := fun i j => .int (Builtin.bitOr i j)) (fun d e => by cases d <;> cases e <;> first | exact .inr rfl | exact .inl ⟨_, _, rfl, rfl, rfl⟩) fun _ _ _ _ => rfl
theorem ok2_shr {C : Cfg} : Ok2 C (rI (fun _ j => 0 ≤ j) fun i j => .int (i / 2 ^ j.toNat)) gShr := ok2_I (k := fun i j => .int (i / 2 ^ j.toNat)) (fun d e => by
  cases d <;> cases e <;> first
    | exact .inr rfl
    | (rename_i i j
       by_cases c : j = (j.natAbs : Int)
       · exact .inl ⟨i, j, rfl, rfl, .inl ⟨by omega, by funext ro w; unfold gShr M.pure; simp only [if_pos c]⟩⟩
       · exact .inl ⟨i, j, rfl, rfl, .inr (by funext ro w; unfold gShr M.no; simp only [if_neg c])⟩)) fun _ _ _ _ => rfl
theorem ok2_shl {C : Cfg} : Ok2 C (rI CPow fun i j => .int (i * 2 ^ j.toNat)) gShl := ok2_I (k := fun i j => .int (i * 2 ^ j.toNat)) (fun d e => by
  cases d <;> cases e <;> first
    | exact .inr rfl
    | (rename_i i j
       by_cases c : j = (j.natAbs : Int) ∧ j.natAbs ≤ 1000000 ∧ i.natAbs < 2 ^ 64
       · exact .inl ⟨i, j, rfl, rfl, .inl ⟨⟨by omega, by omega, c.2.2⟩, by funext ro w; unfold gShl M.pure; simp only [if_pos c]⟩⟩
       · exact .inl ⟨i, j, rfl, rfl, .inr (by funext ro w; unfold gShl M.no; simp only [if_neg c])⟩)) fun _ _ _ _ => rfl
/-! ### x, y = e -/
def sAsg (t : Tg) (f : EF) : SF := sLift f fun d env _ w => match t.put d env with
  | some env' => .go .nx env' w
  | none => .no
section
variable {X : Cx} {W : WX} {pos : Pos} {tg e : Expr} {t : Tg} {f : EF}
theorem f_asg (hg : PG X tg (t.g X.K)) (he : PE X e (tE (cfg X) W f)) (hs : swapsWithSole [tg] e pos.line X.env = pure false := by rfl) (hw : swappedStores [tg] e X.env = pure none := by rfl) (h1 : (assignEach [tg] X.env).map (·.2) = [assign tg X.env] := by rfl) : PS X (.Assign [tg] e pos) (tS (cfg X) W (sAsg t f)) :=
  ps_imp (ps_asg he hg hs hw h1) fun D σ H ⟨ρ, env, ro, w, hS, hE, q⟩ => by
    refine tS_seq hS hE q fun d w1 v ρ1 H1 x1 s1 e1 r1 q1 => ?_
    cases ep : t.put d env with
    | none =>
      have q2 : AfterS (cfg X) W ρ1 H1 ro (match t.put d env with
        | some env' => .go .nx env' w1
        | none => .no) D := q1
      rw [ep] at q2
      exact (show False from q2).elim
    | some env' =>
      have q2 : AfterS (cfg X) W ρ1 H1 ro (match t.put d env with
        | some env' => .go .nx env' w1
        | none => .no) D := q1
      rw [ep] at q2
      exact Tg.ok (C := cfg X) e1 r1 ep fun vs e2 => q2 _ ρ1 H1 .refl s1 e2
end
section
variable {ro w : List D} {env env' : Fx.Env} {f fa fb fc : EF} {t : Tg} {i j : Int} {g g' : D → D → M D}
theorem x_asg {d : D} {w1 : List D} (h : f env ro w = .ok d w1) (hp : t.put d env = some env') : sAsg t f env ro w = .go .nx env' w1 := by
  refine x_lift.trans ?_
  rw [h, st_ok]
  simp only [hp]
@[simp] theorem band_int : gBand (.int i) (.int j) ro w = .ok (.int (Builtin.bitAnd i j)) w := rfl
@[simp] theorem bor_int : gBor (.int i) (.int j) ro w = .ok (.int (Builtin.bitOr i j)) w := rfl
theorem shr_nat {n : Nat} : gShr (.int i) (.int n) ro w = .ok (.int (i / 2 ^ n)) w := by
  unfold gShr
  simp only [Int.natAbs_natCast, if_true, Int.toNat_natCast]
  rfl
theorem shl_nat {n : Nat} (h : n ≤ 1000000) (h' : i.natAbs < 2 ^ 64) : gShl (.int i) (.int n) ro w = .ok (.int (i * 2 ^ n)) w := by
  unfold gShl
  simp only [Int.natAbs_natCast, Int.toNat_natCast, h, h', and_self, if_true]
  rfl
@[simp] theorem x_chain : cChain g g' fa fb fc env ro w = (fa env ro w).an fun a w1 => (fb env ro w1).an fun b w2 => (g (see ro w2 a) (see ro w2 b) ro w2).an fun z w3 => match z with
    | .bl true => (fc env ro w3).an fun c w4 => g' (see ro w4 b) (see ro w4 c) ro w4
    | .bl false => .ok (.bl false) w3
    | _ => .no := by
  show M.bind (fa env) _ ro w = _
  simp only [x_bind, x_see, an_ok]
  congr
  funext a w1
  congr
  funext b w2
  congr
  funext z w3
  cases z with
  | bl k =>
    cases k with
    | true =>
      simp only [x_bind]
      congr
    | false => rfl
  | _ => rfl
end
end Fx
/-! Terms and their types: no program in sight. -/
namespace Fx
open PySem PySem.Spec L2
inductive Trm where
  | at (n : Nat) | fn (a : Fm) (t : Trm) | call (s t : Trm) | pair (s t : Trm) | fst (t : Trm) | snd (t : Trm)
  | inl (t : Trm) (b : Fm) | inr (t : Trm) (b : Fm) | cas (s t u : Trm) | abs (t : Trm) (b : Fm)
  deriving DecidableEq
namespace Trm
def toD : Trm → D
  | .at n => .tup [.str "at", .int n]
  | .fn a t => .tup [.str "fun", a.toD, t.toD]
  | .call s t => .tup [.str "call", s.toD, t.toD]
  | .pair s t => .tup [.str "pair", s.toD, t.toD]
  | .fst t => .tup [.str "first", t.toD]
  | .snd t => .tup [.str "second", t.toD]
  | .inl t b => .tup [.str "left", t.toD, b.toD]
  | .inr t b => .tup [.str "right", t.toD, b.toD]
  | .cas s t u => .tup [.str "case", s.toD, t.toD, u.toD]
  | .abs t b => .tup [.str "absurd", t.toD, b.toD]
def tag : Trm → String
  | .at _ => "at" | .fn _ _ => "fun" | .call _ _ => "call" | .pair _ _ => "pair" | .fst _ => "first" | .snd _ => "second"
  | .inl _ _ => "left" | .inr _ _ => "right" | .cas _ _ _ => "case" | .abs _ _ => "absurd"
def ht : Trm → Nat
  | .at _ => 1
  | .fn _ t => t.ht + 1
  | .call s t => max s.ht t.ht + 1
  | .pair s t => max s.ht t.ht + 1
  | .fst t => t.ht + 1
  | .snd t => t.ht + 1
  | .inl t _ => t.ht + 1
  | .inr t _ => t.ht + 1
  | .cas s t u => max s.ht (max t.ht u.ht) + 1
  | .abs t _ => t.ht + 1
theorem ht_pos (t : Trm) : 0 < t.ht := by cases t <;> simp [ht]
/-- the types that are written in it -/
def Over (P : Str → Prop) : Trm → Prop
  | .at _ => True
  | .fn a t => a.Over P ∧ t.Over P
  | .call s t => s.Over P ∧ t.Over P
  | .pair s t => s.Over P ∧ t.Over P
  | .fst t => t.Over P
  | .snd t => t.Over P
  | .inl t b => t.Over P ∧ b.Over P
  | .inr t b => t.Over P ∧ b.Over P
  | .cas s t u => s.Over P ∧ t.Over P ∧ u.Over P
  | .abs t b => t.Over P ∧ b.Over P
def callT : Fm → Fm → Option Fm
  | .imp a b, c => if a = c then some b else none
  | _, _ => none
def fstT : Fm → Option Fm
  | .and a _ => some a
  | _ => none
def sndT : Fm → Option Fm
  | .and _ b => some b
  | _ => none
def orT : Fm → Option (Fm × Fm)
  | .or a b => some (a, b)
  | _ => none
/-- its type -/
def ty : List Fm → Trm → Option Fm
  | Γ, .at n => Γ[n]?
  | Γ, .fn a t => (ty (a :: Γ) t).map (.imp a)
  | Γ, .call s t => (ty Γ s).bind fun φ => (ty Γ t).bind fun ψ => callT φ ψ
  | Γ, .pair s t => (ty Γ s).bind fun φ => (ty Γ t).bind fun ψ => some (.and φ ψ)
  | Γ, .fst t => (ty Γ t).bind fstT
  | Γ, .snd t => (ty Γ t).bind sndT
  | Γ, .inl t b => (ty Γ t).bind fun φ => some (.or φ b)
  | Γ, .inr t b => (ty Γ t).bind fun φ => some (.or b φ)
  | Γ, .cas s t u => (ty Γ s).bind fun φ => (orT φ).bind fun p => (ty (p.1 :: Γ) t).bind fun α => (ty (p.2 :: Γ) u).bind fun β => if α = β then some α else none
  | Γ, .abs t b => (ty Γ t).bind fun φ => if φ = .fal then some b else none
/-- a bound of the heights of all types that are met -/
def tb : Nat → Trm → Nat
  | B, .at _ => B
  | B, .fn a t => 1 + max a.ht (tb (max B a.ht) t)
  | B, .call s t => max (tb B s) (tb B t)
  | B, .pair s t => 1 + max (tb B s) (tb B t)
  | B, .fst t => tb B t
  | B, .snd t => tb B t
  | B, .inl t b => 1 + max (tb B t) b.ht
  | B, .inr t b => 1 + max (tb B t) b.ht
  | B, .cas s t u => max (tb B s) (max (tb (max B (tb B s - 1)) t) (tb (max B (tb B s - 1)) u))
  | B, .abs t b => max (tb B t) b.ht
theorem tb_ge : ∀ (t : Trm) (B : Nat), B ≤ tb B t
  | .at _, B => Nat.le_refl _
  | .fn a t, B => by have := tb_ge t (max B a.ht); simp only [tb]; omega
  | .call s t, B => by have := tb_ge s B; simp only [tb]; omega
  | .pair s t, B => by have := tb_ge s B; simp only [tb]; omega
  | .fst t, B => by have := tb_ge t B; simp only [tb]; omega
  | .snd t, B => by have := tb_ge t B; simp only [tb]; omega
  | .inl t b, B => by have := tb_ge t B; simp only [tb]; omega
  | .inr t b, B => by have := tb_ge t B; simp only [tb]; omega
  | .cas s t u, B => by have := tb_ge s B; simp only [tb]; omega
  | .abs t b, B => by have := tb_ge t B; simp only [tb]; omega
/-- more in the context: no more than that in the types -/
theorem tb_lip : ∀ (t : Trm) {B B' j : Nat}, B' ≤ B + j → tb B' t ≤ tb B t + j
  | .at _, B, B', j, h => h
  | .fn a t, B, B', j, h => by have := tb_lip t (B := max B a.ht) (B' := max B' a.ht) (j := j) (by omega); simp only [tb]; omega
  | .call s t, B, B', j, h => by have := tb_lip s h; have := tb_lip t h; simp only [tb]; omega
  | .pair s t, B, B', j, h => by have := tb_lip s h; have := tb_lip t h; simp only [tb]; omega
  | .fst t, B, B', j, h => tb_lip t h
  | .snd t, B, B', j, h => tb_lip t h
  | .inl t b, B, B', j, h => by have := tb_lip t h; simp only [tb]; omega
  | .inr t b, B, B', j, h => by have := tb_lip t h; simp only [tb]; omega
  | .cas s t u, B, B', j, h => by
    have h1 := tb_lip s h
    have h2 := tb_lip t (B := max B (tb B s - 1)) (B' := max B' (tb B' s - 1)) (j := j) (by omega)
    have h3 := tb_lip u (B := max B (tb B s - 1)) (B' := max B' (tb B' s - 1)) (j := j) (by omega)
    simp only [tb]
    omega
  | .abs t b, B, B', j, h => by have := tb_lip t h; simp only [tb]; omega
theorem tb_mono {t : Trm} {B B' : Nat} (h : B' ≤ B) : tb B' t ≤ tb B t := by
  have := tb_lip t (B := B) (B' := B') (j := 0) (by omega)
  omega
def CxOk (B : Nat) (P : Str → Prop) (Γ : List Fm) : Prop := ∀ a ∈ Γ, a.ht ≤ B ∧ a.Over P
theorem CxOk.cons {B B' : Nat} {P : Str → Prop} {Γ : List Fm} {a : Fm} (h : CxOk B P Γ) (hB : B ≤ B') (ha : a.ht ≤ B') (ho : a.Over P) : CxOk B' P (a :: Γ) := fun x hx => by
  rcases List.mem_cons.mp hx with e | hx
  · rw [e]
    exact ⟨ha, ho⟩
  · exact ⟨Nat.le_trans (h x hx).1 hB, (h x hx).2⟩
theorem callT_some {φ ψ χ : Fm} (h : callT φ ψ = some χ) : φ = .imp ψ χ := by
  cases φ with
  | imp a b =>
    simp only [callT] at h
    split at h
    · rename_i c
      cases h
      rw [c]
    · cases h
  | _ => cases h
theorem fstT_some {φ χ : Fm} (h : fstT φ = some χ) : ∃ b, φ = .and χ b := by
  cases φ with
  | and a b => cases h; exact ⟨b, rfl⟩
  | _ => cases h
theorem sndT_some {φ χ : Fm} (h : sndT φ = some χ) : ∃ a, φ = .and a χ := by
  cases φ with
  | and a b => cases h; exact ⟨a, rfl⟩
  | _ => cases h
theorem orT_some {φ : Fm} {p : Fm × Fm} (h : orT φ = some p) : φ = .or p.1 p.2 := by
  cases φ with
  | or a b => cases h; rfl
  | _ => cases h
theorem ty_ok {P : Str → Prop} : ∀ (t : Trm) {B : Nat} {Γ : List Fm} {φ : Fm}, CxOk B P Γ → t.Over P → ty Γ t = some φ → φ.ht ≤ tb B t ∧ φ.Over P
  | .at n, B, Γ, φ, h, _, e => h φ (List.mem_of_getElem? e)
  | .fn a t, B, Γ, φ, h, o, e => by
    obtain ⟨ψ, e1, rfl⟩ := Option.map_eq_some_iff.mp e
    have h' : CxOk (max B a.ht) P (a :: Γ) := h.cons (by omega) (by omega) o.1
    obtain ⟨h1, h2⟩ := ty_ok t h' o.2 e1
    exact ⟨by simp only [tb, Fm.ht]; omega, o.1, h2⟩
  | .call s t, B, Γ, φ, h, o, e => by
    obtain ⟨ψ, e1, e2⟩ := Option.bind_eq_some_iff.mp e
    obtain ⟨χ, e3, e4⟩ := Option.bind_eq_some_iff.mp e2
    obtain ⟨h1, h2⟩ := ty_ok s h o.1 e1
    rw [callT_some e4] at h1 h2
    simp only [Fm.ht] at h1
    exact ⟨by simp only [tb]; omega, h2.2⟩
  | .pair s t, B, Γ, φ, h, o, e => by
    obtain ⟨ψ, e1, e2⟩ := Option.bind_eq_some_iff.mp e
    obtain ⟨χ, e3, e4⟩ := Option.bind_eq_some_iff.mp e2
    cases e4
    obtain ⟨h1, h2⟩ := ty_ok s h o.1 e1
    obtain ⟨h3, h4⟩ := ty_ok t h o.2 e3
    exact ⟨by simp only [tb, Fm.ht]; omega, h2, h4⟩
  | .fst t, B, Γ, φ, h, o, e => by
    obtain ⟨ψ, e1, e2⟩ := Option.bind_eq_some_iff.mp e
    obtain ⟨b, rfl⟩ := fstT_some e2
    obtain ⟨h1, h2⟩ := ty_ok t h o e1
    simp only [Fm.ht] at h1
    exact ⟨by simp only [tb]; omega, h2.1⟩
  | .snd t, B, Γ, φ, h, o, e => by
    obtain ⟨ψ, e1, e2⟩ := Option.bind_eq_some_iff.mp e
    obtain ⟨b, rfl⟩ := sndT_some e2
    obtain ⟨h1, h2⟩ := ty_ok t h o e1
    simp only [Fm.ht] at h1
    exact ⟨by simp only [tb]; omega, h2.2⟩
  | .inl t b, B, Γ, φ, h, o, e => by
    obtain ⟨ψ, e1, e2⟩ := Option.bind_eq_some_iff.mp e
    cases e2
    obtain ⟨h1, h2⟩ := ty_ok t h o.1 e1
    exact ⟨by simp only [tb, Fm.ht]; omega, h2, o.2⟩
  | .inr t b, B, Γ, φ, h, o, e => by
    obtain ⟨ψ, e1, e2⟩ := Option.bind_eq_some_iff.mp e
    cases e2
    obtain ⟨h1, h2⟩ := ty_ok t h o.1 e1
    exact ⟨by simp only [tb, Fm.ht]; omega, o.2, h2⟩
  | .cas s t u, B, Γ, φ, h, o, e => by
    obtain ⟨ψ, e1, e2⟩ := Option.bind_eq_some_iff.mp e
    obtain ⟨p, e3, e4⟩ := Option.bind_eq_some_iff.mp e2
    obtain ⟨α, e5, e6⟩ := Option.bind_eq_some_iff.mp e4
    obtain ⟨β, e7, e8⟩ := Option.bind_eq_some_iff.mp e6
    have ea : α = φ := by
      split at e8
      · exact Option.some.inj e8
      · cases e8
    subst ea
    obtain ⟨h1, h2⟩ := ty_ok s h o.1 e1
    rw [orT_some e3] at h1 h2
    simp only [Fm.ht] at h1
    have h' : CxOk (max B (tb B s - 1)) P (p.1 :: Γ) := h.cons (by omega) (by omega) h2.1
    obtain ⟨h3, h4⟩ := ty_ok t h' o.2.1 e5
    exact ⟨by simp only [tb]; omega, h4⟩
  | .abs t b, B, Γ, φ, h, o, e => by
    obtain ⟨ψ, e1, e2⟩ := Option.bind_eq_some_iff.mp e
    have : b = φ := by
      split at e2
      · exact Option.some.inj e2
      · cases e2
    subst this
    exact ⟨by simp only [tb]; omega, o.2⟩
/-! lifted -/
def lift (by' : Nat) : Nat → Trm → Trm
  | k, .at n => .at (if k ≤ n then n + by' else n)
  | k, .fn a t => .fn a (lift by' (k + 1) t)
  | k, .call s t => .call (lift by' k s) (lift by' k t)
  | k, .pair s t => .pair (lift by' k s) (lift by' k t)
  | k, .fst t => .fst (lift by' k t)
  | k, .snd t => .snd (lift by' k t)
  | k, .inl t b => .inl (lift by' k t) b
  | k, .inr t b => .inr (lift by' k t) b
  | k, .cas s t u => .cas (lift by' k s) (lift by' (k + 1) t) (lift by' (k + 1) u)
  | k, .abs t b => .abs (lift by' k t) b
theorem lift_ht {j : Nat} : ∀ (t : Trm) (k : Nat), (lift j k t).ht = t.ht
  | .at _, k => rfl
  | .fn a t, k => by simp only [lift, ht, lift_ht t]
  | .call s t, k => by simp only [lift, ht, lift_ht s, lift_ht t]
  | .pair s t, k => by simp only [lift, ht, lift_ht s, lift_ht t]
  | .fst t, k => by simp only [lift, ht, lift_ht t]
  | .snd t, k => by simp only [lift, ht, lift_ht t]
  | .inl t b, k => by simp only [lift, ht, lift_ht t]
  | .inr t b, k => by simp only [lift, ht, lift_ht t]
  | .cas s t u, k => by simp only [lift, ht, lift_ht s, lift_ht t, lift_ht u]
  | .abs t b, k => by simp only [lift, ht, lift_ht t]
theorem lift_tb {j : Nat} : ∀ (t : Trm) (k B : Nat), tb B (lift j k t) = tb B t
  | .at _, k, B => rfl
  | .fn a t, k, B => by simp only [lift, tb, lift_tb t]
  | .call s t, k, B => by simp only [lift, tb, lift_tb s, lift_tb t]
  | .pair s t, k, B => by simp only [lift, tb, lift_tb s, lift_tb t]
  | .fst t, k, B => by simp only [lift, tb, lift_tb t]
  | .snd t, k, B => by simp only [lift, tb, lift_tb t]
  | .inl t b, k, B => by simp only [lift, tb, lift_tb t]
  | .inr t b, k, B => by simp only [lift, tb, lift_tb t]
  | .cas s t u, k, B => by simp only [lift, tb, lift_tb s, lift_tb t, lift_tb u]
  | .abs t b, k, B => by simp only [lift, tb, lift_tb t]
theorem lift_over {P : Str → Prop} {j : Nat} : ∀ (t : Trm) (k : Nat), t.Over P → (lift j k t).Over P
  | .at _, k, h => trivial
  | .fn a t, k, h => ⟨h.1, lift_over t _ h.2⟩
  | .call s t, k, h => ⟨lift_over s _ h.1, lift_over t _ h.2⟩
  | .pair s t, k, h => ⟨lift_over s _ h.1, lift_over t _ h.2⟩
  | .fst t, k, h => lift_over t (k := k) h
  | .snd t, k, h => lift_over t (k := k) h
  | .inl t b, k, h => ⟨lift_over t _ h.1, h.2⟩
  | .inr t b, k, h => ⟨lift_over t _ h.1, h.2⟩
  | .cas s t u, k, h => ⟨lift_over s _ h.1, lift_over t _ h.2.1, lift_over u _ h.2.2⟩
  | .abs t b, k, h => ⟨lift_over t _ h.1, h.2⟩
/-- further types between -/
theorem ty_lift (Δ : List Fm) : ∀ (t : Trm) (Θ Γ : List Fm), ty (Θ ++ (Δ ++ Γ)) (lift Δ.length Θ.length t) = ty (Θ ++ Γ) t
  | .at n, Θ, Γ => by
    simp only [lift, ty]
    by_cases c : Θ.length ≤ n
    · rw [if_pos c, List.getElem?_append_right (by omega), List.getElem?_append_right (by omega), List.getElem?_append_right (by omega)]
      congr 1
      omega
    · rw [if_neg c, List.getElem?_append_left (by omega), List.getElem?_append_left (by omega)]
  | .fn a t, Θ, Γ => by
    have := ty_lift Δ t (a :: Θ) Γ
    simp only [lift, ty]
    exact congrArg _ this
  | .call s t, Θ, Γ => by simp only [lift, ty, ty_lift Δ s, ty_lift Δ t]
  | .pair s t, Θ, Γ => by simp only [lift, ty, ty_lift Δ s, ty_lift Δ t]
  | .fst t, Θ, Γ => by simp only [lift, ty, ty_lift Δ t]
  | .snd t, Θ, Γ => by simp only [lift, ty, ty_lift Δ t]
  | .inl t b, Θ, Γ => by simp only [lift, ty, ty_lift Δ t]
  | .inr t b, Θ, Γ => by simp only [lift, ty, ty_lift Δ t]
  | .cas s t u, Θ, Γ => by
    have h1 := fun p => ty_lift Δ t (p :: Θ) Γ
    have h2 := fun p => ty_lift Δ u (p :: Θ) Γ
    simp only [List.length_cons, List.cons_append] at h1 h2
    simp only [lift, ty, ty_lift Δ s, h1, h2]
  | .abs t b, Θ, Γ => by simp only [lift, ty, ty_lift Δ t]
/-- one more type in front -/
theorem ty_lift1 {a : Fm} {Γ : List Fm} {t : Trm} : ty (a :: Γ) (lift 1 0 t) = ty Γ t := ty_lift [a] t [] Γ
end Trm
end Fx
/-! Terms: a value put in; how great the types are that are met. -/
namespace Fx
open PySem PySem.Spec L2
namespace Trm
/-- the greatest type that is written in it -/
def an : Trm → Nat
  | .at _ => 0
  | .fn a t => max a.ht t.an
  | .call s t => max s.an t.an
  | .pair s t => max s.an t.an
  | .fst t => t.an
  | .snd t => t.an
  | .inl t b => max t.an b.ht
  | .inr t b => max t.an b.ht
  | .cas s t u => max s.an (max t.an u.an)
  | .abs t b => max t.an b.ht
def OkT (N : Nat) (Γ : List Fm) (t : Trm) : Prop := ∀ φ, ty Γ t = some φ → φ.ht ≤ N
/-- all types that are met have at most this height -/
def AllT (N : Nat) : List Fm → Trm → Prop
  | Γ, .at n => OkT N Γ (.at n)
  | Γ, .fn a t => OkT N Γ (.fn a t) ∧ AllT N (a :: Γ) t
  | Γ, .call s t => OkT N Γ (.call s t) ∧ AllT N Γ s ∧ AllT N Γ t
  | Γ, .pair s t => OkT N Γ (.pair s t) ∧ AllT N Γ s ∧ AllT N Γ t
  | Γ, .fst t => OkT N Γ (.fst t) ∧ AllT N Γ t
  | Γ, .snd t => OkT N Γ (.snd t) ∧ AllT N Γ t
  | Γ, .inl t b => OkT N Γ (.inl t b) ∧ AllT N Γ t
  | Γ, .inr t b => OkT N Γ (.inr t b) ∧ AllT N Γ t
  | Γ, .cas s t u => OkT N Γ (.cas s t u) ∧ AllT N Γ s ∧ ∀ p, (ty Γ s).bind orT = some p → AllT N (p.1 :: Γ) t ∧ AllT N (p.2 :: Γ) u
  | Γ, .abs t b => OkT N Γ (.abs t b) ∧ AllT N Γ t
theorem AllT.top {N : Nat} {Γ : List Fm} {t : Trm} (h : AllT N Γ t) : OkT N Γ t := by
  cases t with
  | «at» n => exact h
  | _ => exact h.1
theorem ty_ov {P : Str → Prop} : ∀ (t : Trm) {Γ : List Fm} {φ : Fm}, (∀ a ∈ Γ, a.Over P) → t.Over P → ty Γ t = some φ → φ.Over P := fun t Γ φ h o e => by
  have hb : ∃ B, CxOk B P Γ := by
    clear e o
    induction Γ with
    | nil => exact ⟨0, fun a ha => by cases ha⟩
    | cons a Γ ih =>
      obtain ⟨B, hB⟩ := ih fun x hx => h x (List.mem_cons_of_mem _ hx)
      exact ⟨max B a.ht, hB.cons (by omega) (by omega) (h a List.mem_cons_self)⟩
  obtain ⟨B, hB⟩ := hb
  exact (ty_ok t hB o e).2
theorem allT_tb {P : Str → Prop} {N : Nat} : ∀ (t : Trm) {B : Nat} {Γ : List Fm}, CxOk B P Γ → t.Over P → tb B t ≤ N → AllT N Γ t := by
  have top : ∀ (t : Trm) {B : Nat} {Γ : List Fm}, CxOk B P Γ → t.Over P → tb B t ≤ N → OkT N Γ t := fun t B Γ h o hb φ e => Nat.le_trans (ty_ok t h o e).1 hb
  intro t
  induction t with
  | «at» n => exact fun h o hb => top _ h o hb
  | fn a t ih =>
    intro B Γ h o hb
    refine ⟨top _ h o hb, ?_⟩
    simp only [tb] at hb
    exact ih (B := max B a.ht) (h.cons (by omega) (by omega) o.1) o.2 (by omega)
  | call s t ihs iht =>
    intro B Γ h o hb
    refine ⟨top _ h o hb, ?_⟩
    simp only [tb] at hb
    exact ⟨ihs h o.1 (by omega), iht h o.2 (by omega)⟩
  | pair s t ihs iht =>
    intro B Γ h o hb
    refine ⟨top _ h o hb, ?_⟩
    simp only [tb] at hb
    exact ⟨ihs h o.1 (by omega), iht h o.2 (by omega)⟩
  | fst t ih => exact fun h o hb => ⟨top _ h o hb, ih h o hb⟩
  | snd t ih => exact fun h o hb => ⟨top _ h o hb, ih h o hb⟩
  | inl t b ih =>
    intro B Γ h o hb
    refine ⟨top _ h o hb, ?_⟩
    simp only [tb] at hb
    exact ih h o.1 (by omega)
  | inr t b ih =>
    intro B Γ h o hb
    refine ⟨top _ h o hb, ?_⟩
    simp only [tb] at hb
    exact ih h o.1 (by omega)
  | cas s t u ihs iht ihu =>
    intro B Γ h o hb
    refine ⟨top _ h o hb, ?_⟩
    simp only [tb] at hb
    refine ⟨ihs h o.1 (by omega), fun p e => ?_⟩
    obtain ⟨φ, e1, e2⟩ := Option.bind_eq_some_iff.mp e
    obtain ⟨h1, h2⟩ := ty_ok s h o.1 e1
    rw [orT_some e2] at h1 h2
    simp only [Fm.ht] at h1
    exact ⟨iht (B := max B (tb B s - 1)) (h.cons (by omega) (by omega) h2.1) o.2.1 (by omega), ihu (B := max B (tb B s - 1)) (h.cons (by omega) (by omega) h2.2) o.2.2 (by omega)⟩
  | abs t b ih =>
    intro B Γ h o hb
    refine ⟨top _ h o hb, ?_⟩
    simp only [tb] at hb
    exact ih h o.1 (by omega)
theorem okT_eq {N : Nat} {Γ Γ' : List Fm} {t t' : Trm} (e : ty Γ' t' = ty Γ t) (h : OkT N Γ t) : OkT N Γ' t' := fun φ e2 => h φ (e ▸ e2)
theorem allT_lift {N : Nat} (Δ : List Fm) : ∀ (t : Trm) (Θ Γ : List Fm), AllT N (Θ ++ Γ) t → AllT N (Θ ++ (Δ ++ Γ)) (lift Δ.length Θ.length t)
  | .at n, Θ, Γ, h => okT_eq (t := .at n) (t' := lift Δ.length Θ.length (.at n)) (ty_lift Δ (.at n) Θ Γ) h
  | .fn a t, Θ, Γ, h => ⟨okT_eq (ty_lift Δ (.fn a t) Θ Γ) h.1, allT_lift Δ t (a :: Θ) Γ h.2⟩
  | .call s t, Θ, Γ, h => ⟨okT_eq (ty_lift Δ (.call s t) Θ Γ) h.1, allT_lift Δ s Θ Γ h.2.1, allT_lift Δ t Θ Γ h.2.2⟩
  | .pair s t, Θ, Γ, h => ⟨okT_eq (ty_lift Δ (.pair s t) Θ Γ) h.1, allT_lift Δ s Θ Γ h.2.1, allT_lift Δ t Θ Γ h.2.2⟩
  | .fst t, Θ, Γ, h => ⟨okT_eq (ty_lift Δ (.fst t) Θ Γ) h.1, allT_lift Δ t Θ Γ h.2⟩
  | .snd t, Θ, Γ, h => ⟨okT_eq (ty_lift Δ (.snd t) Θ Γ) h.1, allT_lift Δ t Θ Γ h.2⟩
  | .inl t b, Θ, Γ, h => ⟨okT_eq (ty_lift Δ (.inl t b) Θ Γ) h.1, allT_lift Δ t Θ Γ h.2⟩
  | .inr t b, Θ, Γ, h => ⟨okT_eq (ty_lift Δ (.inr t b) Θ Γ) h.1, allT_lift Δ t Θ Γ h.2⟩
  | .cas s t u, Θ, Γ, h => ⟨okT_eq (ty_lift Δ (.cas s t u) Θ Γ) h.1, allT_lift Δ s Θ Γ h.2.1, fun p e => by
      rw [ty_lift Δ s] at e
      have := h.2.2 p e
      exact ⟨allT_lift Δ t (p.1 :: Θ) Γ this.1, allT_lift Δ u (p.2 :: Θ) Γ this.2⟩⟩
  | .abs t b, Θ, Γ, h => ⟨okT_eq (ty_lift Δ (.abs t b) Θ Γ) h.1, allT_lift Δ t Θ Γ h.2⟩
theorem lift_an {j : Nat} : ∀ (t : Trm) (k : Nat), (lift j k t).an = t.an
  | .at _, k => rfl
  | .fn a t, k => by simp only [lift, an, lift_an t]
  | .call s t, k => by simp only [lift, an, lift_an s, lift_an t]
  | .pair s t, k => by simp only [lift, an, lift_an s, lift_an t]
  | .fst t, k => by simp only [lift, an, lift_an t]
  | .snd t, k => by simp only [lift, an, lift_an t]
  | .inl t b, k => by simp only [lift, an, lift_an t]
  | .inr t b, k => by simp only [lift, an, lift_an t]
  | .cas s t u, k => by simp only [lift, an, lift_an s, lift_an t, lift_an u]
  | .abs t b, k => by simp only [lift, an, lift_an t]
/-! a value put in -/
def putAt (v : Trm) : Nat → Trm → Trm
  | d, .at n => if n = d then lift d 0 v else .at (if d < n then n - 1 else n)
  | d, .fn a t => .fn a (putAt v (d + 1) t)
  | d, .call s t => .call (putAt v d s) (putAt v d t)
  | d, .pair s t => .pair (putAt v d s) (putAt v d t)
  | d, .fst t => .fst (putAt v d t)
  | d, .snd t => .snd (putAt v d t)
  | d, .inl t b => .inl (putAt v d t) b
  | d, .inr t b => .inr (putAt v d t) b
  | d, .cas s t u => .cas (putAt v d s) (putAt v (d + 1) t) (putAt v (d + 1) u)
  | d, .abs t b => .abs (putAt v d t) b
theorem ty_put {v : Trm} {κ : Fm} {Γ : List Fm} (hv : ty Γ v = some κ) : ∀ (t : Trm) (Θ : List Fm), ty (Θ ++ Γ) (putAt v Θ.length t) = ty (Θ ++ κ :: Γ) t
  | .at n, Θ => by
    simp only [putAt]
    by_cases c : n = Θ.length
    · rw [if_pos c]
      have := ty_lift Θ v [] Γ
      simp only [List.nil_append, List.length_nil] at this
      rw [this, hv, c]
      simp [ty]
    · rw [if_neg c]
      simp only [ty]
      by_cases c2 : Θ.length < n
      · rw [if_pos c2, List.getElem?_append_right (by omega), List.getElem?_append_right (by omega)]
        obtain ⟨m, hm⟩ : ∃ m, n - Θ.length = m + 1 := ⟨n - Θ.length - 1, by omega⟩
        rw [hm, List.getElem?_cons_succ]
        congr 1
        omega
      · rw [if_neg c2, List.getElem?_append_left (by omega), List.getElem?_append_left (by omega)]
  | .fn a t, Θ => by
    have := ty_put hv t (a :: Θ)
    simp only [putAt, ty]
    exact congrArg _ this
  | .call s t, Θ => by simp only [putAt, ty, ty_put hv s, ty_put hv t]
  | .pair s t, Θ => by simp only [putAt, ty, ty_put hv s, ty_put hv t]
  | .fst t, Θ => by simp only [putAt, ty, ty_put hv t]
  | .snd t, Θ => by simp only [putAt, ty, ty_put hv t]
  | .inl t b, Θ => by simp only [putAt, ty, ty_put hv t]
  | .inr t b, Θ => by simp only [putAt, ty, ty_put hv t]
  | .cas s t u, Θ => by
    have h1 := fun p => ty_put hv t (p :: Θ)
    have h2 := fun p => ty_put hv u (p :: Θ)
    simp only [List.length_cons, List.cons_append] at h1 h2
    simp only [putAt, ty, ty_put hv s, h1, h2]
  | .abs t b, Θ => by simp only [putAt, ty, ty_put hv t]
theorem allT_put {N : Nat} {v : Trm} {κ : Fm} {Γ : List Fm} (hv : ty Γ v = some κ) (hN : AllT N Γ v) : ∀ (t : Trm) (Θ : List Fm), AllT N (Θ ++ κ :: Γ) t → AllT N (Θ ++ Γ) (putAt v Θ.length t)
  | .at n, Θ, h => by
    have e := ty_put hv (.at n) Θ
    simp only [putAt] at e ⊢
    by_cases c : n = Θ.length
    · rw [if_pos c]
      exact allT_lift Θ v [] Γ hN
    · rw [if_neg c] at e ⊢
      exact okT_eq e h
  | .fn a t, Θ, h => ⟨okT_eq (ty_put hv (.fn a t) Θ) h.1, allT_put hv hN t (a :: Θ) h.2⟩
  | .call s t, Θ, h => ⟨okT_eq (ty_put hv (.call s t) Θ) h.1, allT_put hv hN s Θ h.2.1, allT_put hv hN t Θ h.2.2⟩
  | .pair s t, Θ, h => ⟨okT_eq (ty_put hv (.pair s t) Θ) h.1, allT_put hv hN s Θ h.2.1, allT_put hv hN t Θ h.2.2⟩
  | .fst t, Θ, h => ⟨okT_eq (ty_put hv (.fst t) Θ) h.1, allT_put hv hN t Θ h.2⟩
  | .snd t, Θ, h => ⟨okT_eq (ty_put hv (.snd t) Θ) h.1, allT_put hv hN t Θ h.2⟩
  | .inl t b, Θ, h => ⟨okT_eq (ty_put hv (.inl t b) Θ) h.1, allT_put hv hN t Θ h.2⟩
  | .inr t b, Θ, h => ⟨okT_eq (ty_put hv (.inr t b) Θ) h.1, allT_put hv hN t Θ h.2⟩
  | .cas s t u, Θ, h => ⟨okT_eq (ty_put hv (.cas s t u) Θ) h.1, allT_put hv hN s Θ h.2.1, fun p e => by
      rw [ty_put hv s] at e
      have := h.2.2 p e
      exact ⟨allT_put hv hN t (p.1 :: Θ) this.1, allT_put hv hN u (p.2 :: Θ) this.2⟩⟩
  | .abs t b, Θ, h => ⟨okT_eq (ty_put hv (.abs t b) Θ) h.1, allT_put hv hN t Θ h.2⟩
theorem put_over {P : Str → Prop} {v : Trm} (hv : v.Over P) : ∀ (t : Trm) (d : Nat), t.Over P → (putAt v d t).Over P
  | .at n, d, _ => by
    simp only [putAt]
    split
    · exact lift_over v _ hv
    · trivial
  | .fn a t, d, h => ⟨h.1, put_over hv t _ h.2⟩
  | .call s t, d, h => ⟨put_over hv s _ h.1, put_over hv t _ h.2⟩
  | .pair s t, d, h => ⟨put_over hv s _ h.1, put_over hv t _ h.2⟩
  | .fst t, d, h => put_over hv t d h
  | .snd t, d, h => put_over hv t d h
  | .inl t b, d, h => ⟨put_over hv t _ h.1, h.2⟩
  | .inr t b, d, h => ⟨put_over hv t _ h.1, h.2⟩
  | .cas s t u, d, h => ⟨put_over hv s _ h.1, put_over hv t _ h.2.1, put_over hv u _ h.2.2⟩
  | .abs t b, d, h => ⟨put_over hv t _ h.1, h.2⟩
theorem put_ht {v : Trm} : ∀ (t : Trm) (d : Nat), (putAt v d t).ht ≤ t.ht + v.ht
  | .at n, d => by
    simp only [putAt]
    split
    · rw [lift_ht]; omega
    · simp only [ht]; omega
  | .fn a t, d => by have := put_ht (v := v) t (d + 1); simp only [putAt, ht]; omega
  | .call s t, d => by have := put_ht (v := v) t d; have := put_ht (v := v) s d; simp only [putAt, ht]; omega
  | .pair s t, d => by have := put_ht (v := v) t d; have := put_ht (v := v) s d; simp only [putAt, ht]; omega
  | .fst t, d => by have := put_ht (v := v) t d; simp only [putAt, ht]; omega
  | .snd t, d => by have := put_ht (v := v) t d; simp only [putAt, ht]; omega
  | .inl t b, d => by have := put_ht (v := v) t d; simp only [putAt, ht]; omega
  | .inr t b, d => by have := put_ht (v := v) t d; simp only [putAt, ht]; omega
  | .cas s t u, d => by have := put_ht (v := v) s d; have := put_ht (v := v) t (d + 1); have := put_ht (v := v) u (d + 1); simp only [putAt, ht]; omega
  | .abs t b, d => by have := put_ht (v := v) t d; simp only [putAt, ht]; omega
theorem put_an {v : Trm} : ∀ (t : Trm) (d : Nat), (putAt v d t).an ≤ max t.an v.an
  | .at n, d => by
    simp only [putAt]
    split
    · rw [lift_an]; omega
    · simp only [an]; omega
  | .fn a t, d => by have := put_an (v := v) t (d + 1); simp only [putAt, an]; omega
  | .call s t, d => by have := put_an (v := v) t d; have := put_an (v := v) s d; simp only [putAt, an]; omega
  | .pair s t, d => by have := put_an (v := v) t d; have := put_an (v := v) s d; simp only [putAt, an]; omega
  | .fst t, d => by have := put_an (v := v) t d; simp only [putAt, an]; omega
  | .snd t, d => by have := put_an (v := v) t d; simp only [putAt, an]; omega
  | .inl t b, d => by have := put_an (v := v) t d; simp only [putAt, an]; omega
  | .inr t b, d => by have := put_an (v := v) t d; simp only [putAt, an]; omega
  | .cas s t u, d => by have := put_an (v := v) s d; have := put_an (v := v) t (d + 1); have := put_an (v := v) u (d + 1); simp only [putAt, an]; omega
  | .abs t b, d => by have := put_an (v := v) t d; simp only [putAt, an]; omega
/-! compared -/
theorem nb : ∀ t : Trm, t.toD.nb = true
  | .at n => rfl
  | .fn a t => by simp [toD, D.nb, D.nbs, a.nb, nb t]
  | .call s t => by simp [toD, D.nb, D.nbs, nb s, nb t]
  | .pair s t => by simp [toD, D.nb, D.nbs, nb s, nb t]
  | .fst t => by simp [toD, D.nb, D.nbs, nb t]
  | .snd t => by simp [toD, D.nb, D.nbs, nb t]
  | .inl t b => by simp [toD, D.nb, D.nbs, nb t, b.nb]
  | .inr t b => by simp [toD, D.nb, D.nbs, nb t, b.nb]
  | .cas s t u => by simp [toD, D.nb, D.nbs, nb s, nb t, nb u]
  | .abs t b => by simp [toD, D.nb, D.nbs, nb t, b.nb]
theorem lay : ∀ t : Trm, t.Over (fun x => PyData.strOk x = true) → t.toD.lay = true
  | .at n, _ => by simp [toD, D.lay, D.lays]
  | .fn a t, h => by simp [toD, D.lay, D.lays, a.lay h.1, lay t h.2]
  | .call s t, h => by simp [toD, D.lay, D.lays, lay s h.1, lay t h.2]
  | .pair s t, h => by simp [toD, D.lay, D.lays, lay s h.1, lay t h.2]
  | .fst t, h => by simp [toD, D.lay, D.lays, lay t h]
  | .snd t, h => by simp [toD, D.lay, D.lays, lay t h]
  | .inl t b, h => by simp [toD, D.lay, D.lays, lay t h.1, b.lay h.2]
  | .inr t b, h => by simp [toD, D.lay, D.lays, lay t h.1, b.lay h.2]
  | .cas s t u, h => by simp [toD, D.lay, D.lays, lay s h.1, lay t h.2.1, lay u h.2.2]
  | .abs t b, h => by simp [toD, D.lay, D.lays, lay t h.1, b.lay h.2]
theorem dp : ∀ t : Trm, t.toD.dp ≤ t.ht + t.an
  | .at n => by simp [toD, D.dp, D.dps, ht, an]
  | .fn a t => by have := dp t; have := a.dp; simp only [toD, D.dp, D.dps, ht, an]; omega
  | .call s t => by have := dp s; have := dp t; simp only [toD, D.dp, D.dps, ht, an]; omega
  | .pair s t => by have := dp s; have := dp t; simp only [toD, D.dp, D.dps, ht, an]; omega
  | .fst t => by have := dp t; simp only [toD, D.dp, D.dps, ht, an]; omega
  | .snd t => by have := dp t; simp only [toD, D.dp, D.dps, ht, an]; omega
  | .inl t b => by have := dp t; have := b.dp; simp only [toD, D.dp, D.dps, ht, an]; omega
  | .inr t b => by have := dp t; have := b.dp; simp only [toD, D.dp, D.dps, ht, an]; omega
  | .cas s t u => by have := dp s; have := dp t; have := dp u; simp only [toD, D.dp, D.dps, ht, an]; omega
  | .abs t b => by have := dp t; have := b.dp; simp only [toD, D.dp, D.dps, ht, an]; omega
theorem eqo {t : Trm} (h : t.Over (fun x => PyData.strOk x = true)) (h2 : t.ht + t.an ≤ 60) : t.toD.eqo = true := eqo_of (nb t) (lay t h) (by have := dp t; omega)
end Trm
end Fx
/-! zip of a tuple and a list. -/
namespace Fx
open PySem PySem.Spec L2 PyProof.Rows RZ
/-- the pair that comes at each turn: from the tuple at a with n1 items, from the list at b with n2 -/
def Itm (K : PySem.W.Frag) (a b : Addr) (n1 n2 : Nat) : It :=
  ⟨fun i H => ∃ (us vs : List V) (x y : V), SqT K H a us ∧ SqL K H b vs ∧ us[i]? = some x ∧ vs[i]? = some y ∧ us.length = n1 ∧ vs.length = n2,
    fun i H v G => ∃ T x y, v = .ref T ∧ H T = none ∧ G = upd H T (.tup [x, y]) ∧ (∀ us, SqT K H a us → us[i]? = some x) ∧ ∀ vs, SqL K H b vs → vs[i]? = some y,
    fun i H => (∃ us vs : List V, SqT K H a us ∧ SqL K H b vs ∧ us.length = n1 ∧ vs.length = n2) ∧ (n1 ≤ i ∨ n2 ≤ i)⟩
theorem sep_of {z TI TO j k a b : Addr} (D : ZipApart z TI TO j k a b) : ZipSep2 z TI TO j k [j, a] [k, b] where
  TIz := D.TIz
  TOz := D.TOz
  TITO := D.TITO
  TIi1 := D.TIi1
  TIi2 := D.TIi2
  mem1 := by simp
  mem2 := by simp
  zf1 := by simp [D.i1z.symm, D.l1z.symm]
  zf2 := by simp [D.i2z.symm, D.l2z.symm]
  Tf1 := by simp [D.TOi1, D.l1TO.symm]
  Tf2 := by simp [D.TOi2, D.l2TO.symm]
  sep1_2 := by simp [D.i12, D.l2i1.symm]
  sep2_1 := by simp [D.i12.symm, D.l1i2.symm]
def StM (z TI TO j k a b : Addr) (n1 n2 : Nat) (i : Nat) (h : Heap) : Prop :=
  IsZip h z TI TO .none ∧ IsTupOf2 h TI (.ref j) (.ref k) ∧ (∃ x y, IsTupOf2 h TO x y) ∧ h.IsTupleIter j a i ∧ h.IsListIter k b i ∧ i ≤ n1 ∧ i ≤ n2
theorem mem5 {z TI TO j k c : Addr} (h : c ∈ [z, TI, TO, j, k]) : c = z ∨ c = TI ∨ c = TO ∨ c = j ∨ c = k := by simpa using h
theorem StM.lt {z TI TO j k a b c : Addr} {n1 n2 i : Nat} {h : Heap} (st : StM z TI TO j k a b n1 n2 i h) (hc : c ∈ [z, TI, TO, j, k]) : c < h.objs.size := by
  obtain ⟨k1, k2, ⟨x, y, k3⟩, ⟨_, k4, _⟩, ⟨_, k5, _⟩, _⟩ := st
  rcases mem5 hc with e | e | e | e | e <;> rw [e]
  · exact Heap.lt_size k1
  · exact Heap.lt_size k2
  · exact Heap.lt_size k3
  · exact Heap.lt_size k4
  · exact Heap.lt_size k5
theorem turn_zipM {P : Program} {w : World} {K : PySem.W.Frag} {elts : List Expr} {kk : Nat} {tpos : Pos} {a b z TI TO j k : Addr} {n1 n2 : Nat} (D : ZipApart z TI TO j k a b) :
    Turn P w K (.Tuple elts kk tpos) (Itm K a b n1 n2) [z, TI, TO, j, k] z (StM z TI TO j k a b n1 n2) where
  mem := by simp
  obj := fun i h st c hc => by
    obtain ⟨k1, k2, ⟨x, y, k3⟩, ⟨p, k4, _, d4⟩, ⟨q, k5, _, d5⟩, _⟩ := st
    rcases mem5 hc with e | e | e | e | e <;> rw [e]
    · exact ⟨_, k1, fun v e => nomatch e⟩
    · exact ⟨_, k2, fun v e => nomatch e⟩
    · exact ⟨_, k3, fun v e => nomatch e⟩
    · exact ⟨p, k4, fun v e => by rw [d4] at e; cases e⟩
    · exact ⟨q, k5, fun v e => by rw [d5] at e; cases e⟩
  keep := fun i h h' ⟨k1, k2, ⟨x, y, k3⟩, k4, k5, k6⟩ g =>
    ⟨g z (by simp) _ k1, g TI (by simp) _ k2, ⟨x, y, g TO (by simp) _ k3⟩, k4.at fun o e => g j (by simp) o e, k5.at fun o e => g k (by simp) o e, k6⟩
  item := by
    intro X hP hw hK hc i pins s σ H E I hf st hg
    subst hP hw hK
    have lt := fun c hcm => StM.lt (c := c) st hcm
    obtain ⟨k1, k2, ⟨x0, y0, k3⟩, k4, k5, l1, l2⟩ := st
    obtain ⟨us, vs, x, y, ha, hb, hx, hy, e1, e2⟩ := hg
    obtain ⟨A1, rv, p, _⟩ := I.tuple ha
    obtain ⟨A2, rv2, p2, _⟩ := I.list hb
    obtain ⟨u, hu, ru⟩ := rv.get hx
    obtain ⟨u2, hu2, ru2⟩ := rv2.get hy
    have hh : X.A.in1.handled = none := by simp [I.ok.hd hc]
    have m1 : i < A1.length := (List.getElem?_eq_some_iff.mp hu).1
    have m2 : i < A2.length := (List.getElem?_eq_some_iff.mp hu2).1
    refine wpAny_pyNext_zipD2_item (sep_of D) (Draws.tuple hh j a D.l1i1 A1.toArray) (Draws.list hh k b D.l2i2 A2.toArray) k1 k2 k3 ⟨k4, p⟩ ⟨k5, p2.isList⟩ (by simpa using m1) (by simpa using m2) fun x1 x2 h' tk y1 y2 z' TO' s1 s2 hT hsz hk => ?_
    have q1 : u = x1 := by
      have : A1.toArray[i]? = some x1 := y1
      rw [List.getElem?_toArray, hu] at this
      exact Option.some.inj this
    have q2 : u2 = x2 := by
      have : A2.toArray[i]? = some x2 := y2
      rw [List.getElem?_toArray, hu2] at this
      exact Option.some.inj this
    subst q1 q2
    have hzn : s.heap.objs.size ≠ z := Nat.ne_of_gt (lt z (by simp))
    refine ⟨_, rfl, wpAny_letOwnedTupleGo_zip (s := { s with heap := h', toks := tk }) z' fun h'' z'' sb => ?_⟩
    have back : ∀ c o, c ∉ [z, TI, TO, j, k] → s.heap.get? c = some o → h''.get? c = some o := fun c o hb e => by
      simp only [List.mem_cons, List.not_mem_nil, or_false, not_or] at hb
      exact (sb.2 c hb.1).trans (hk c o hb.1 hb.2.2.1 hb.2.2.2.1 hb.2.2.2.2 e)
    have tup : h''.get? s.heap.objs.size = some { cls := .type "tuple", data := .seq #[u, u2] } := (sb.2 _ hzn).trans hT
    have I1 : Inv X pins σ (upd H s.heap.objs.size (.tup [x, y])) { s with heap := h'', toks := tk } :=
      I.turnedNew (t' := tk) (ch := [z, TI, TO, j, k]) back hf (Nat.le_refl _) ⟨by show 2 ≤ sizeLine; decide, [u, u2], .cons ru (.cons ru2 .nil), ⟨_, tup, rfl, _, rfl⟩⟩
    refine ⟨.ref s.heap.objs.size, _, I1, rfl, ⟨_, x, y, rfl, I.hok.fresh (Nat.le_refl _), rfl, fun l hl => by rw [I.tuple_inj hl ha]; exact hx, fun l hl => by rw [I.list_inj hl hb]; exact hy⟩, ⟨z'', ?_, ⟨u, u2, ?_⟩, ?_, ?_, ?_, ?_⟩, fun c hcm => ?_⟩
    · exact (sb.2 TI D.TIz).trans (hk TI _ D.TIz D.TITO D.TIi1 D.TIi2 k2)
    · exact (sb.2 TO D.TOz).trans TO'
    · exact s1.1.at fun o e => (sb.2 j D.i1z).trans e
    · exact s2.1.at fun o e => (sb.2 k D.i2z).trans e
    · have := rv.length; omega
    · have := rv2.length; omega
    · rw [upd_ne (Nat.ne_of_lt (lt c hcm))]
      exact (hf c hcm).1
  done := by
    intro X hP hw hK hc i pins s σ H E I hf st hg
    subst hP hw hK
    obtain ⟨k1, k2, ⟨x0, y0, k3⟩, k4, k5, l1, l2⟩ := st
    obtain ⟨⟨us, vs, ha, hb, e1, e2⟩, hend⟩ := hg
    obtain ⟨A1, rv, p, _⟩ := I.tuple ha
    obtain ⟨A2, rv2, p2, _⟩ := I.list hb
    have hh : X.A.in1.handled = none := by simp [I.ok.hd hc]
    have g1 := rv.length
    have g2 := rv2.length
    refine wpAny_pyNext_zipD2_end (sep_of D) (Draws.tuple hh j a D.l1i1 A1.toArray) (Draws.list hh k b D.l2i2 A2.toArray) k1 k2 k3 ⟨k4, p⟩ ⟨k5, p2.isList⟩ (by simp; omega) (by simp; omega) (by simp; omega) fun h' tk hk => ⟨rfl, I.turnedL (t' := tk) (ch := [z, TI, TO, j, k]) (fun c o hb e => ?_) hf⟩
    simp only [List.mem_cons, List.not_mem_nil, or_false, not_or] at hb
    exact hk c o hb.1 hb.2.2.1 hb.2.2.2.1 hb.2.2.2.2 e
  self := fun A i s Q E st h => wpAny_pyIter_zip st.1 h
def iZipM (K : PySem.W.Frag) (ta : TA) : TI := fun σ H R => ta σ H fun vs H1 => ∃ a b us ys, vs = [.ref a, .ref b] ∧ SqT K H1 a us ∧ SqL K H1 b ys ∧ R (Itm K a b us.length ys.length) H1
theorem pi_zipM {X : Cx} {e e2 : Expr} {ta : TA} {p pos tpos : Pos} {elts : List Expr} {kk : Nat} (hg : Gl X "zip") (hm : X.mg "zip" = none) (ha : PA X [e, e2] ta)
    (hs : starEach [e, e2] X.env = (false, eval e X.env) :: starEach [e2] X.env := by rfl) (hpl : (backTo pos (starEach [e2] X.env)).any (·.1) = false := by rfl) :
    PI X (.Tuple elts kk tpos) (.Call (.Name "zip" p) [e, e2] [] pos) (iZipM X.K ta) := by
  refine ⟨fun pins s σ H R I h => Call_ (ld_blt I hg hm PyProof.Rows.boot_zip (PyProof.Rows.callWith_type1 (thn (ha.run pos pins s σ H _ I h) fun us s1 ⟨vs, H1, I1, r1, a, b, xs, ys, ev, hx, hy, q⟩ => ?_) hs hpl))⟩
  subst ev
  obtain ⟨u1, u2, rfl, r, r'⟩ : ∃ u1 u2, us = [u1, u2] ∧ RelV (.ref a) u1 ∧ RelV (.ref b) u2 := by
    cases r1 with
    | cons r rr => cases rr with
      | cons r' rr => cases rr; exact ⟨_, _, rfl, r, r'⟩
  cases (show u1 = Value.ref a from r)
  cases (show u2 = Value.ref b from r')
  obtain ⟨A1, rv, p1, _⟩ := I1.tuple hx
  obtain ⟨A2, rv2, p2, _⟩ := I1.list hy
  obtain ⟨o1, ho1, _⟩ := id p1
  refine zip_begins2 (begins_tuple a A1.toArray) (begins_list b A2.toArray) p1 p2.isList fun h' hz hTI hTO g1 g2 hsz hk => wpAny_pyIter_zip hz ?_
  have I2 : Inv X pins σ H1 { s1 with heap := h' } := I1.kept (t' := s1.toks) hk
  refine ⟨_, [s1.heap.objs.size + 4, s1.heap.objs.size + 2, s1.heap.objs.size + 3, s1.heap.objs.size, s1.heap.objs.size + 1], _, _, H1, rfl, I2, turn_zipM (PySem.W.ktu_apart s1.heap.objs.size a b (Heap.lt_size ho1) p2.lt), ⟨hz, hTI, ⟨_, _, hTO⟩, ⟨_, g1, rfl, rfl⟩, ⟨_, g2, rfl, rfl⟩, Nat.zero_le _, Nat.zero_le _⟩, fun c hcm => ?_, q⟩
  have hle : s1.heap.objs.size ≤ c := by
    rcases mem5 hcm with z | z | z | z | z <;> rw [z] <;> first | exact Nat.le_add_right _ _ | exact Nat.le_refl _
  exact I1.fpOk hle (I1.hok.fresh hle)
/-! over trees -/
def gZipM : List D → M (List D)
  | [.tup ds, .lst es] => M.pure (zipD ds es)
  | _ => M.no
def cZipM (fs : Env → M (List D)) : Env → M (List D) := fun env => M.bind (fs env) gZipM
theorem walks_zipM {K : PySem.W.Frag} {mg : Str → Option Value} {w : World} {ρ : Zn} {H : Hp} {ds es : List D} {a b : Addr} {vs us : List V} (h : Still ρ H a (.tup vs) ∨ KT K a vs) (h' : Still ρ H b (.lst us) ∨ KL K b us) (r : Reps ⟨K, mg, w⟩ ρ H ds vs) (r' : Reps ⟨K, mg, w⟩ ρ H es us) :
    Walks ⟨K, mg, w⟩ ρ H (zipD ds es) (Itm K a b vs.length us.length) := by
  intro i ρ' H' u x s
  have g : SqT K H' a vs := h.elim (fun h => .inl (Still.extR x h).2) .inr
  have g' : SqL K H' b us := h'.elim (fun h => .inl (Still.extR x h).2) .inr
  have k := Reps.extR x ds r
  have k' := Reps.extR x es r'
  refine ⟨fun d e => ?_, fun e => ⟨⟨vs, us, g, g', rfl, rfl⟩, ?_⟩⟩
  · unfold zipD at e
    rw [List.getElem?_map] at e
    cases eq : (ds.zip es)[i]? with
    | none => rw [eq] at e; cases e
    | some q =>
      rw [eq] at e
      cases e
      obtain ⟨e1, e2⟩ := List.getElem?_zip_eq_some.mp eq
      obtain ⟨y, y1, y2⟩ := k.get e1
      obtain ⟨z, z1, z2⟩ := k'.get e2
      refine ⟨⟨vs, us, y, z, g, g', y1, z1, rfl, rfl⟩, fun v H2 ⟨T, p, q', e3, e4, e5, e6, e7⟩ => ?_⟩
      have p1 := e6 vs g
      rw [y1] at p1
      cases p1
      have p2 := e7 us g'
      rw [z1] at p2
      cases p2
      subst e3 e5
      exact ⟨ext_new s e4, reps_new s e4, T, _, rfl, .inl ⟨s.fresh e4, .inl upd_same⟩, _, _, rfl, Rep.ext (ext_new s e4) _ y2, _, _, rfl, Rep.ext (ext_new s e4) _ z2, rfl⟩
  · have := List.getElem?_eq_none_iff.mp e
    unfold zipD at this
    rw [List.length_map, List.length_zip, r.len, r'.len] at this
    omega
section
variable {X : Cx} {W : WX} {pos p tpos : Pos} {a b : Expr} {elts : List Expr} {kk : Nat} {fs : Env → M (List D)}
theorem pfi_zipM (hg : Gl X "zip") (hm : X.mg "zip" = none) (ha : PA X [a, b] (tA (cfg X) W fs)) (hs : starEach [a, b] X.env = (false, eval a X.env) :: starEach [b] X.env := by rfl) (hpl : (backTo pos (starEach [b] X.env)).any (·.1) = false := by rfl) :
    PI X (.Tuple elts kk tpos) (.Call (.Name "zip" p) [a, b] [] pos) (tI (cfg X) W (cZipM fs)) := pi_imp (pi_zipM hg hm ha hs hpl) fun σ H R ⟨ρ, env, ro, w, hS, hE, q⟩ => by
  refine tR_seq hS hE q fun ds w1 vs ρ1 H1 x1 s1 r1 q1 => ?_
  unfold gZipM at q1
  split at q1
  · obtain ⟨v, r', e1, ⟨a, us, e2, hst, hr⟩, v2, r2, e3, ⟨b, us2, e4, hst2, hr2⟩, e5⟩ := r1
    cases (show r2 = [] from e5)
    subst e1 e2 e3 e4
    exact ⟨a, b, us, us2, rfl, Still.sqT hst, Still.sqL hst2, q1 _ ρ1 H1 .refl s1 (walks_zipM hst hst2 hr hr2)⟩
  · exact (show False from q1).elim
end
section
variable {ro w : List D} {env : Env} {fs : Env → M (List D)}
@[simp] theorem x_zipM : cZipM fs env ro w = (fs env ro w).an fun ds w1 => gZipM ds ro w1 := by
  show M.bind (fs env) _ ro w = _
  simp
@[simp] theorem zipM_lst {ds es : List D} : gZipM [.tup ds, .lst es] ro w = .ok (zipD ds es) w := rfl
end
end Fx
/-! enumerate over a list. -/
namespace Fx
open PySem PySem.Spec L2 PyProof.Rows RZ
def enumD (ds : List D) : List D := ds.mapIdx fun (i : Nat) d => .tup [.int (i : Int), d]
def gEnum : List D → M (List D)
  | [.lst es] => M.pure (enumD es)
  | _ => M.no
def cEnum (fs : Env → M (List D)) : Env → M (List D) := fun env => M.bind (fs env) gEnum
theorem walks_enum {K : PySem.W.Frag} {mg : Str → Option Value} {w : World} {ρ : Zn} {H : Hp} {es : List D} {a : Addr} {us : List V} (h : Still ρ H a (.lst us) ∨ KL K a us) (r : Reps ⟨K, mg, w⟩ ρ H es us) :
    Walks ⟨K, mg, w⟩ ρ H (enumD es) (Ite K a) := by
  intro i ρ' H' u x s
  have g : SqL K H' a us := h.elim (fun h => .inl (Still.extR x h).2) .inr
  have k := Reps.extR x es r
  refine ⟨fun d e => ?_, fun e => ⟨us, g, ?_⟩⟩
  · unfold enumD at e
    rw [List.getElem?_mapIdx] at e
    cases eq : es[i]? with
    | none => rw [eq] at e; cases e
    | some q =>
      rw [eq] at e
      cases e
      obtain ⟨y, y1, y2⟩ := k.get eq
      refine ⟨⟨us, y, g, y1⟩, fun v H2 ⟨T, q', e3, e4, e5, e6⟩ => ?_⟩
      have p1 := e6 us g
      rw [y1] at p1
      cases p1
      subst e3 e5
      exact ⟨ext_new s e4, reps_new s e4, T, _, rfl, .inl ⟨s.fresh e4, .inl upd_same⟩, .int (i : Nat), _, rfl, rfl, _, _, rfl, Rep.ext (ext_new s e4) _ y2, rfl⟩
  · have := List.getElem?_eq_none_iff.mp e
    unfold enumD at this
    rw [List.length_mapIdx, k.len] at this
    omega
section
variable {X : Cx} {W : WX} {pos p tpos : Pos} {a : Expr} {elts : List Expr} {kk : Nat} {fs : Env → M (List D)}
theorem pfi_enum (hg : Gl X "enumerate") (hm : X.mg "enumerate" = none) (ha : PA X [a] (tA (cfg X) W fs)) (hs : starEach [a] X.env = [(false, eval a X.env)] := by rfl) :
    PI X (.Tuple elts kk tpos) (.Call (.Name "enumerate" p) [a] [] pos) (tI (cfg X) W (cEnum fs)) := pi_imp (pi_enum hg hm ha hs) fun σ H R ⟨ρ, env, ro, w, hS, hE, q⟩ => by
  refine tR_seq hS hE q fun ds w1 vs ρ1 H1 x1 s1 r1 q1 => ?_
  unfold gEnum at q1
  split at q1
  · obtain ⟨v, r', e1, ⟨a, us, e2, hst, hr⟩, e5⟩ := r1
    cases (show r' = [] from e5)
    subst e1 e2
    exact ⟨a, us, rfl, Still.sqL hst, q1 _ ρ1 H1 .refl s1 (walks_enum hst hr)⟩
  · exact (show False from q1).elim
end
section
variable {ro w : List D} {env : Env} {fs : Env → M (List D)}
@[simp] theorem x_enum : cEnum fs env ro w = (fs env ro w).an fun ds w1 => gEnum ds ro w1 := by
  show M.bind (fs env) _ ro w = _
  simp
@[simp] theorem enum_lst {es : List D} : gEnum [.lst es] ro w = .ok (enumD es) w := rfl
end
end Fx
/-! Steps of terms: no program in sight. -/
namespace Fx
open PySem PySem.Spec L2
namespace Trm
/-- the term that a redex at the top becomes -/
def con : Trm → Option Trm
  | .call (.fn _ t) s => some (putAt s 0 t)
  | .fst (.pair s _) => some s
  | .snd (.pair _ t) => some t
  | .cas (.inl s _) t _ => some (putAt s 0 t)
  | .cas (.inr s _) _ u => some (putAt s 0 u)
  | _ => none
def cnt : Trm → Nat
  | .at _ => 0
  | .fn _ t => cnt t
  | .call s t => (con (.call s t)).isSome.toNat + cnt s + cnt t
  | .pair s t => cnt s + cnt t
  | .fst t => (con (.fst t)).isSome.toNat + cnt t
  | .snd t => (con (.snd t)).isSome.toNat + cnt t
  | .inl t _ => cnt t
  | .inr t _ => cnt t
  | .cas s t u => (con (.cas s t u)).isSome.toNat + cnt s + cnt t + cnt u
  | .abs t _ => cnt t
def stp : Trm → Option Trm
  | .at _ => none
  | .fn a t => (stp t).map (.fn a)
  | .call s t => match con (.call s t) with
    | some x => some x
    | none => match stp s with
      | some x => some (.call x t)
      | none => (stp t).map (.call s)
  | .pair s t => match stp s with
    | some x => some (.pair x t)
    | none => (stp t).map (.pair s)
  | .fst t => match con (.fst t) with
    | some x => some x
    | none => (stp t).map .fst
  | .snd t => match con (.snd t) with
    | some x => some x
    | none => (stp t).map .snd
  | .inl t b => (stp t).map (.inl · b)
  | .inr t b => (stp t).map (.inr · b)
  | .cas s t u => match con (.cas s t u) with
    | some x => some x
    | none => match stp s with
      | some x => some (.cas x t u)
      | none => match stp t with
        | some x => some (.cas s x u)
        | none => (stp u).map (.cas s t)
  | .abs t b => (stp t).map (.abs · b)
structure Good (N : Nat) (P : Str → Prop) (Γ : List Fm) (t t' : Trm) : Prop where
  ty : ty Γ t' = ty Γ t
  al : AllT N Γ t'
  ov : t'.Over P
  ht : t'.ht ≤ 2 * t.ht
  an : t'.an ≤ t.an
theorem put_good {N : Nat} {P : Str → Prop} {Γ : List Fm} {t s w : Trm} {a χ : Fm} (e3 : Trm.ty Γ s = some a) (hs : AllT N Γ s) (e5 : Trm.ty (a :: Γ) t = some χ) (ht' : AllT N (a :: Γ) t) (o1 : s.Over P) (o2 : t.Over P) (hw : Trm.ty Γ w = some χ)
    (h1 : t.ht + s.ht ≤ 2 * w.ht) (h2 : max t.an s.an ≤ w.an) : Good N P Γ w (putAt s 0 t) where
  ty := (ty_put e3 t []).trans (e5.trans hw.symm)
  al := allT_put e3 hs t [] ht'
  ov := put_over o1 t 0 o2
  ht := Nat.le_trans (put_ht t 0) h1
  an := Nat.le_trans (put_an t 0) h2
theorem con_good {N : Nat} {P : Str → Prop} {Γ : List Fm} {t t' : Trm} {τ : Fm} (e : con t = some t') (h : Trm.ty Γ t = some τ) (o : t.Over P) (a : AllT N Γ t) : Good N P Γ t t' := by
  have h0 := h
  unfold con at e
  split at e
  · rename_i b t s
    cases e
    simp only [Trm.ty] at h
    obtain ⟨φ, e1, e2⟩ := Option.bind_eq_some_iff.mp h
    obtain ⟨ψ, e3, e4⟩ := Option.bind_eq_some_iff.mp e2
    obtain ⟨χ, e5, rfl⟩ := Option.map_eq_some_iff.mp e1
    simp only [callT] at e4
    split at e4
    · rename_i hab
      cases e4
      subst hab
      exact put_good e3 a.2.2 e5 a.2.1.2 o.2 o.1.2 h0 (by simp only [Trm.ht]; omega) (by simp only [Trm.an]; omega)
    · cases e4
  · rename_i s u
    cases e
    simp only [Trm.ty] at h
    obtain ⟨φ, e1, e2⟩ := Option.bind_eq_some_iff.mp h
    obtain ⟨ψ, e3, e4⟩ := Option.bind_eq_some_iff.mp e1
    obtain ⟨χ, e5, e6⟩ := Option.bind_eq_some_iff.mp e4
    cases e6
    simp only [fstT] at e2
    cases e2
    exact ⟨e3.trans h0.symm, a.2.2.1, o.1, by simp only [Trm.ht]; omega, by simp only [Trm.an]; omega⟩
  · rename_i s u
    cases e
    simp only [Trm.ty] at h
    obtain ⟨φ, e1, e2⟩ := Option.bind_eq_some_iff.mp h
    obtain ⟨ψ, e3, e4⟩ := Option.bind_eq_some_iff.mp e1
    obtain ⟨χ, e5, e6⟩ := Option.bind_eq_some_iff.mp e4
    cases e6
    simp only [sndT] at e2
    cases e2
    exact ⟨e5.trans h0.symm, a.2.2.2, o.2, by simp only [Trm.ht]; omega, by simp only [Trm.an]; omega⟩
  · rename_i s b t u
    cases e
    simp only [Trm.ty] at h
    obtain ⟨φ, e1, e2⟩ := Option.bind_eq_some_iff.mp h
    obtain ⟨p, e3, e4⟩ := Option.bind_eq_some_iff.mp e2
    obtain ⟨ψ, e5, e6⟩ := Option.bind_eq_some_iff.mp e1
    cases e6
    simp only [orT] at e3
    cases e3
    obtain ⟨α, e7, e8⟩ := Option.bind_eq_some_iff.mp e4
    obtain ⟨β, e9, e10⟩ := Option.bind_eq_some_iff.mp e8
    split at e10
    · cases e10
      have aa := a.2.2 (ψ, b) (by simp [Trm.ty, e5, orT])
      exact put_good e5 a.2.1.2 e7 aa.1 o.1.1 o.2.1 h0 (by simp only [Trm.ht]; omega) (by simp only [Trm.an]; omega)
    · cases e10
  · rename_i s b t u
    cases e
    simp only [Trm.ty] at h
    obtain ⟨φ, e1, e2⟩ := Option.bind_eq_some_iff.mp h
    obtain ⟨p, e3, e4⟩ := Option.bind_eq_some_iff.mp e2
    obtain ⟨ψ, e5, e6⟩ := Option.bind_eq_some_iff.mp e1
    cases e6
    simp only [orT] at e3
    cases e3
    obtain ⟨α, e7, e8⟩ := Option.bind_eq_some_iff.mp e4
    obtain ⟨β, e9, e10⟩ := Option.bind_eq_some_iff.mp e8
    split at e10
    · rename_i hab
      cases e10
      subst hab
      have aa := a.2.2 (b, ψ) (by simp [Trm.ty, e5, orT])
      exact put_good e5 a.2.1.2 e9 aa.2 o.1.1 o.2.2 h0 (by simp only [Trm.ht]; omega) (by simp only [Trm.an]; omega)
    · cases e10
  · cases e
theorem stp_good {N : Nat} {P : Str → Prop} : ∀ (t : Trm) {Γ : List Fm} {t' : Trm} {τ : Fm}, stp t = some t' → Trm.ty Γ t = some τ → t.Over P → AllT N Γ t → Good N P Γ t t'
  | .at n, Γ, t', τ, e, h, o, a => by cases e
  | .fn b t, Γ, t', τ, e, h, o, a => by
    obtain ⟨x, e1, rfl⟩ := Option.map_eq_some_iff.mp e
    obtain ⟨χ, e5, e6⟩ := Option.map_eq_some_iff.mp h
    have g := stp_good t e1 e5 o.2 a.2
    have q : Trm.ty Γ (.fn b x) = Trm.ty Γ (.fn b t) := by simp only [Trm.ty, g.ty]
    have := g.ht
    have := g.an
    exact ⟨q, ⟨okT_eq q a.1, g.al⟩, ⟨o.1, g.ov⟩, by simp only [Trm.ht]; omega, by simp only [Trm.an]; omega⟩
  | .call s t, Γ, t', τ, e, h, o, a => by
    simp only [stp] at e
    have h0 := h
    obtain ⟨φ, e1, e2⟩ := Option.bind_eq_some_iff.mp h
    obtain ⟨ψ, e3, e4⟩ := Option.bind_eq_some_iff.mp e2
    split at e
    · rename_i x ec
      cases e
      exact con_good ec h0 o a
    · split at e
      · rename_i x ec
        cases e
        have g := stp_good s ec e1 o.1 a.2.1
        have q : Trm.ty Γ (.call x t) = Trm.ty Γ (.call s t) := by simp only [Trm.ty, g.ty]
        have := g.ht
        have := g.an
        exact ⟨q, ⟨okT_eq q a.1, g.al, a.2.2⟩, ⟨g.ov, o.2⟩, by simp only [Trm.ht]; omega, by simp only [Trm.an]; omega⟩
      · obtain ⟨x, ec, rfl⟩ := Option.map_eq_some_iff.mp e
        have g := stp_good t ec e3 o.2 a.2.2
        have q : Trm.ty Γ (.call s x) = Trm.ty Γ (.call s t) := by simp only [Trm.ty, g.ty]
        have := g.ht
        have := g.an
        exact ⟨q, ⟨okT_eq q a.1, a.2.1, g.al⟩, ⟨o.1, g.ov⟩, by simp only [Trm.ht]; omega, by simp only [Trm.an]; omega⟩
  | .pair s t, Γ, t', τ, e, h, o, a => by
    simp only [stp] at e
    obtain ⟨φ, e1, e2⟩ := Option.bind_eq_some_iff.mp h
    obtain ⟨ψ, e3, e4⟩ := Option.bind_eq_some_iff.mp e2
    split at e
    · rename_i x ec
      cases e
      have g := stp_good s ec e1 o.1 a.2.1
      have q : Trm.ty Γ (.pair x t) = Trm.ty Γ (.pair s t) := by simp only [Trm.ty, g.ty]
      have := g.ht
      have := g.an
      exact ⟨q, ⟨okT_eq q a.1, g.al, a.2.2⟩, ⟨g.ov, o.2⟩, by simp only [Trm.ht]; omega, by simp only [Trm.an]; omega⟩
    · obtain ⟨x, ec, rfl⟩ := Option.map_eq_some_iff.mp e
      have g := stp_good t ec e3 o.2 a.2.2
      have q : Trm.ty Γ (.pair s x) = Trm.ty Γ (.pair s t) := by simp only [Trm.ty, g.ty]
      have := g.ht
      have := g.an
      exact ⟨q, ⟨okT_eq q a.1, a.2.1, g.al⟩, ⟨o.1, g.ov⟩, by simp only [Trm.ht]; omega, by simp only [Trm.an]; omega⟩
  | .fst t, Γ, t', τ, e, h, o, a => by
    simp only [stp] at e
    have h0 := h
    obtain ⟨φ, e1, e2⟩ := Option.bind_eq_some_iff.mp h
    split at e
    · rename_i x ec
      cases e
      exact con_good ec h0 o a
    · obtain ⟨x, ec, rfl⟩ := Option.map_eq_some_iff.mp e
      have g := stp_good t ec e1 o a.2
      have q : Trm.ty Γ (.fst x) = Trm.ty Γ (.fst t) := by simp only [Trm.ty, g.ty]
      have := g.ht
      have := g.an
      exact ⟨q, ⟨okT_eq q a.1, g.al⟩, g.ov, by simp only [Trm.ht]; omega, by simp only [Trm.an]; omega⟩
  | .snd t, Γ, t', τ, e, h, o, a => by
    simp only [stp] at e
    have h0 := h
    obtain ⟨φ, e1, e2⟩ := Option.bind_eq_some_iff.mp h
    split at e
    · rename_i x ec
      cases e
      exact con_good ec h0 o a
    · obtain ⟨x, ec, rfl⟩ := Option.map_eq_some_iff.mp e
      have g := stp_good t ec e1 o a.2
      have q : Trm.ty Γ (.snd x) = Trm.ty Γ (.snd t) := by simp only [Trm.ty, g.ty]
      have := g.ht
      have := g.an
      exact ⟨q, ⟨okT_eq q a.1, g.al⟩, g.ov, by simp only [Trm.ht]; omega, by simp only [Trm.an]; omega⟩
  | .inl t b, Γ, t', τ, e, h, o, a => by
    obtain ⟨φ, e1, e2⟩ := Option.bind_eq_some_iff.mp h
    obtain ⟨x, ec, rfl⟩ := Option.map_eq_some_iff.mp e
    have g := stp_good t ec e1 o.1 a.2
    have q : Trm.ty Γ (.inl x b) = Trm.ty Γ (.inl t b) := by simp only [Trm.ty, g.ty]
    have := g.ht
    have := g.an
    exact ⟨q, ⟨okT_eq q a.1, g.al⟩, ⟨g.ov, o.2⟩, by simp only [Trm.ht]; omega, by simp only [Trm.an]; omega⟩
  | .inr t b, Γ, t', τ, e, h, o, a => by
    obtain ⟨φ, e1, e2⟩ := Option.bind_eq_some_iff.mp h
    obtain ⟨x, ec, rfl⟩ := Option.map_eq_some_iff.mp e
    have g := stp_good t ec e1 o.1 a.2
    have q : Trm.ty Γ (.inr x b) = Trm.ty Γ (.inr t b) := by simp only [Trm.ty, g.ty]
    have := g.ht
    have := g.an
    exact ⟨q, ⟨okT_eq q a.1, g.al⟩, ⟨g.ov, o.2⟩, by simp only [Trm.ht]; omega, by simp only [Trm.an]; omega⟩
  | .cas s t u, Γ, t', τ, e, h, o, a => by
    simp only [stp] at e
    have h0 := h
    obtain ⟨φ, e1, e2⟩ := Option.bind_eq_some_iff.mp h
    obtain ⟨p, e3, e4⟩ := Option.bind_eq_some_iff.mp e2
    obtain ⟨α, e5, e6⟩ := Option.bind_eq_some_iff.mp e4
    obtain ⟨β, e7, e8⟩ := Option.bind_eq_some_iff.mp e6
    have e9 : (Trm.ty Γ s).bind orT = some p := by rw [e1]; exact e3
    split at e
    · rename_i x ec
      cases e
      exact con_good ec h0 o a
    · split at e
      · rename_i x ec
        cases e
        have g := stp_good s ec e1 o.1 a.2.1
        have q : Trm.ty Γ (.cas x t u) = Trm.ty Γ (.cas s t u) := by simp only [Trm.ty, g.ty]
        have := g.ht
        have := g.an
        exact ⟨q, ⟨okT_eq q a.1, g.al, fun p' e' => a.2.2 p' (by rw [g.ty] at e'; exact e')⟩, ⟨g.ov, o.2⟩, by simp only [Trm.ht]; omega, by simp only [Trm.an]; omega⟩
      · split at e
        · rename_i x ec
          cases e
          have g := stp_good t ec e5 o.2.1 (a.2.2 p e9).1
          have q : Trm.ty Γ (.cas s x u) = Trm.ty Γ (.cas s t u) := by simp only [Trm.ty, e1, Option.bind_some, e3, g.ty]
          have := g.ht
          have := g.an
          exact ⟨q, ⟨okT_eq q a.1, a.2.1, fun p' e' => by
            rw [e9] at e'
            cases e'
            exact ⟨g.al, (a.2.2 p e9).2⟩⟩, ⟨o.1, g.ov, o.2.2⟩, by simp only [Trm.ht]; omega, by simp only [Trm.an]; omega⟩
        · obtain ⟨x, ec, rfl⟩ := Option.map_eq_some_iff.mp e
          have g := stp_good u ec e7 o.2.2 (a.2.2 p e9).2
          have q : Trm.ty Γ (.cas s t x) = Trm.ty Γ (.cas s t u) := by simp only [Trm.ty, e1, Option.bind_some, e3, g.ty]
          have := g.ht
          have := g.an
          exact ⟨q, ⟨okT_eq q a.1, a.2.1, fun p' e' => by
            rw [e9] at e'
            cases e'
            exact ⟨(a.2.2 p e9).1, g.al⟩⟩, ⟨o.1, o.2.1, g.ov⟩, by simp only [Trm.ht]; omega, by simp only [Trm.an]; omega⟩
  | .abs t b, Γ, t', τ, e, h, o, a => by
    obtain ⟨φ, e1, e2⟩ := Option.bind_eq_some_iff.mp h
    obtain ⟨x, ec, rfl⟩ := Option.map_eq_some_iff.mp e
    have g := stp_good t ec e1 o.1 a.2
    have q : Trm.ty Γ (.abs x b) = Trm.ty Γ (.abs t b) := by simp only [Trm.ty, g.ty]
    have := g.ht
    have := g.an
    exact ⟨q, ⟨okT_eq q a.1, g.al⟩, ⟨g.ov, o.2⟩, by simp only [Trm.ht]; omega, by simp only [Trm.an]; omega⟩
end Trm
end Fx
/-! Terms whose calls are all of written functions: reductions end, and they end at one term. No program in sight. -/
namespace Fx
open PySem PySem.Spec L2
namespace Trm
def LF : Trm → Prop
  | .at _ => True
  | .fn _ t => LF t
  | .call (.fn _ b) s => LF b ∧ LF s
  | .call _ _ => False
  | .pair s t => LF s ∧ LF t
  | .fst t => LF t
  | .snd t => LF t
  | .inl t _ => LF t
  | .inr t _ => LF t
  | .cas s t u => LF s ∧ LF t ∧ LF u
  | .abs t _ => LF t
/-! ### environments -/
section
variable {α : Type}
def cn (x : α) (ρ : Nat → α) : Nat → α
  | 0 => x
  | n + 1 => ρ n
def le (j k : Nat) (ρ : Nat → α) : Nat → α := fun n => if k ≤ n then ρ (n + j) else ρ n
def pe (d : Nat) (v : α) (ρ : Nat → α) : Nat → α := fun n => if n = d then v else if d < n then ρ (n - 1) else ρ n
theorem le_cn {j k : Nat} {x : α} {ρ : Nat → α} : le j (k + 1) (cn x ρ) = cn x (le j k ρ) := by
  funext n
  cases n with
  | zero => simp [le, cn]
  | succ n =>
    have e : n + 1 + j = (n + j) + 1 := by omega
    simp only [le, cn, e, Nat.add_le_add_iff_right]
theorem pe_cn {d : Nat} {v x : α} {ρ : Nat → α} : pe (d + 1) v (cn x ρ) = cn x (pe d v ρ) := by
  funext n
  cases n with
  | zero => simp [pe, cn]
  | succ n =>
    cases n with
    | zero =>
      by_cases c : d = 0
      · subst c
        simp [pe, cn]
      · have c' : ¬ 0 = d := fun h => c h.symm
        simp [pe, cn, c, c']
    | succ n => simp [pe, cn]
theorem pe_zero {v : α} {ρ : Nat → α} : pe 0 v ρ = cn v ρ := by
  funext n
  cases n with
  | zero => simp [pe, cn]
  | succ n => simp [pe, cn]
theorem le_zero {k : Nat} {ρ : Nat → α} : le 0 k ρ = ρ := by
  funext n
  simp [le]
theorem le_succ {d : Nat} {x : α} {ρ : Nat → α} : le (d + 1) 0 (cn x ρ) = le d 0 ρ := by
  funext n
  have e : n + (d + 1) = (n + d) + 1 := by omega
  simp only [le, Nat.zero_le, if_true]
  rw [e]
  rfl
end
/-! ### sizes: f says how parts are taken together -/
def I (f : Nat → Nat → Nat) : Trm → (Nat → Nat) → Nat
  | .at n, ρ => ρ n
  | .fn _ b, ρ => 1 + I f b (cn 1 ρ)
  | .call (.fn _ b) s, ρ => 2 + f (I f b (cn (I f s ρ) ρ)) (I f s ρ)
  | .call _ _, _ => 0
  | .pair s t, ρ => 1 + f (I f s ρ) (I f t ρ)
  | .fst t, ρ => 1 + I f t ρ
  | .snd t, ρ => 1 + I f t ρ
  | .inl t _, ρ => 1 + I f t ρ
  | .inr t _, ρ => 1 + I f t ρ
  | .cas s t u, ρ => 1 + f (I f s ρ) (f (I f t (cn (I f s ρ) ρ)) (I f u (cn (I f s ρ) ρ)))
  | .abs t _, ρ => 1 + I f t ρ
theorem I_lift {f : Nat → Nat → Nat} {j : Nat} : ∀ (t : Trm) (k : Nat) (ρ : Nat → Nat), LF t → I f (lift j k t) ρ = I f t (le j k ρ)
  | .at n, k, ρ, h => by
    by_cases c : k ≤ n <;> simp [lift, I, le, c]
  | .fn a t, k, ρ, h => by simp only [lift, I, I_lift t _ _ h, le_cn]
  | .call (.fn a b) s, k, ρ, h => by simp only [lift, I, I_lift b _ _ h.1, I_lift s _ _ h.2, le_cn]
  | .call (.at _) _, _, _, h => h.elim
  | .call (.call _ _) _, _, _, h => h.elim
  | .call (.pair _ _) _, _, _, h => h.elim
  | .call (.fst _) _, _, _, h => h.elim
  | .call (.snd _) _, _, _, h => h.elim
  | .call (.inl _ _) _, _, _, h => h.elim
  | .call (.inr _ _) _, _, _, h => h.elim
  | .call (.cas _ _ _) _, _, _, h => h.elim
  | .call (.abs _ _) _, _, _, h => h.elim
  | .pair s t, k, ρ, h => by simp only [lift, I, I_lift s _ _ h.1, I_lift t _ _ h.2]
  | .fst t, k, ρ, h => by simp only [lift, I, I_lift t _ _ h]
  | .snd t, k, ρ, h => by simp only [lift, I, I_lift t _ _ h]
  | .inl t b, k, ρ, h => by simp only [lift, I, I_lift t _ _ h]
  | .inr t b, k, ρ, h => by simp only [lift, I, I_lift t _ _ h]
  | .cas s t u, k, ρ, h => by simp only [lift, I, I_lift s _ _ h.1, I_lift t _ _ h.2.1, I_lift u _ _ h.2.2, le_cn]
  | .abs t b, k, ρ, h => by simp only [lift, I, I_lift t _ _ h]
theorem lift_lf {j : Nat} : ∀ (t : Trm) (k : Nat), LF t → LF (lift j k t)
  | .at n, k, h => trivial
  | .fn a t, k, h => lift_lf t (k + 1) h
  | .call (.fn a b) s, k, h => ⟨lift_lf b (k + 1) h.1, lift_lf s k h.2⟩
  | .call (.at _) _, _, h => h.elim
  | .call (.call _ _) _, _, h => h.elim
  | .call (.pair _ _) _, _, h => h.elim
  | .call (.fst _) _, _, h => h.elim
  | .call (.snd _) _, _, h => h.elim
  | .call (.inl _ _) _, _, h => h.elim
  | .call (.inr _ _) _, _, h => h.elim
  | .call (.cas _ _ _) _, _, h => h.elim
  | .call (.abs _ _) _, _, h => h.elim
  | .pair s t, k, h => ⟨lift_lf s k h.1, lift_lf t k h.2⟩
  | .fst t, k, h => lift_lf t k h
  | .snd t, k, h => lift_lf t k h
  | .inl t b, k, h => lift_lf t k h
  | .inr t b, k, h => lift_lf t k h
  | .cas s t u, k, h => ⟨lift_lf s k h.1, lift_lf t (k + 1) h.2.1, lift_lf u (k + 1) h.2.2⟩
  | .abs t b, k, h => lift_lf t k h
theorem put_lf {v : Trm} (hv : LF v) : ∀ (t : Trm) (d : Nat), LF t → LF (putAt v d t)
  | .at n, d, h => by
    unfold putAt
    split
    · exact lift_lf v 0 hv
    · trivial
  | .fn a t, d, h => put_lf hv t (d + 1) h
  | .call (.fn a b) s, d, h => ⟨put_lf hv b (d + 1) h.1, put_lf hv s d h.2⟩
  | .call (.at _) _, _, h => h.elim
  | .call (.call _ _) _, _, h => h.elim
  | .call (.pair _ _) _, _, h => h.elim
  | .call (.fst _) _, _, h => h.elim
  | .call (.snd _) _, _, h => h.elim
  | .call (.inl _ _) _, _, h => h.elim
  | .call (.inr _ _) _, _, h => h.elim
  | .call (.cas _ _ _) _, _, h => h.elim
  | .call (.abs _ _) _, _, h => h.elim
  | .pair s t, d, h => ⟨put_lf hv s d h.1, put_lf hv t d h.2⟩
  | .fst t, d, h => put_lf hv t d h
  | .snd t, d, h => put_lf hv t d h
  | .inl t b, d, h => put_lf hv t d h
  | .inr t b, d, h => put_lf hv t d h
  | .cas s t u, d, h => ⟨put_lf hv s d h.1, put_lf hv t (d + 1) h.2.1, put_lf hv u (d + 1) h.2.2⟩
  | .abs t b, d, h => put_lf hv t d h
theorem I_up {f : Nat → Nat → Nat} {v : Trm} (hv : LF v) {d x : Nat} {ρ : Nat → Nat} : I f (lift (d + 1) 0 v) (cn x ρ) = I f (lift d 0 v) ρ := by
  rw [I_lift v _ _ hv, I_lift v _ _ hv, le_succ]
theorem I_put {f : Nat → Nat → Nat} {v : Trm} (hv : LF v) : ∀ (t : Trm) (d : Nat) (ρ : Nat → Nat), LF t → I f (putAt v d t) ρ = I f t (pe d (I f (lift d 0 v) ρ) ρ)
  | .at n, d, ρ, h => by
    by_cases c : n = d
    · simp [putAt, I, pe, c]
    · by_cases c2 : d < n <;> simp [putAt, I, pe, c, c2]
  | .fn a t, d, ρ, h => by simp only [putAt, I, I_put hv t _ _ h, I_up hv, pe_cn]
  | .call (.fn a b) s, d, ρ, h => by simp only [putAt, I, I_put hv b _ _ h.1, I_put hv s _ _ h.2, I_up hv, pe_cn]
  | .call (.at _) _, _, _, h => h.elim
  | .call (.call _ _) _, _, _, h => h.elim
  | .call (.pair _ _) _, _, _, h => h.elim
  | .call (.fst _) _, _, _, h => h.elim
  | .call (.snd _) _, _, _, h => h.elim
  | .call (.inl _ _) _, _, _, h => h.elim
  | .call (.inr _ _) _, _, _, h => h.elim
  | .call (.cas _ _ _) _, _, _, h => h.elim
  | .call (.abs _ _) _, _, _, h => h.elim
  | .pair s t, d, ρ, h => by simp only [putAt, I, I_put hv s _ _ h.1, I_put hv t _ _ h.2]
  | .fst t, d, ρ, h => by simp only [putAt, I, I_put hv t _ _ h]
  | .snd t, d, ρ, h => by simp only [putAt, I, I_put hv t _ _ h]
  | .inl t b, d, ρ, h => by simp only [putAt, I, I_put hv t _ _ h]
  | .inr t b, d, ρ, h => by simp only [putAt, I, I_put hv t _ _ h]
  | .cas s t u, d, ρ, h => by simp only [putAt, I, I_put hv s _ _ h.1, I_put hv t _ _ h.2.1, I_put hv u _ _ h.2.2, I_up hv, pe_cn]
  | .abs t b, d, ρ, h => by simp only [putAt, I, I_put hv t _ _ h]
theorem I_put0 {f : Nat → Nat → Nat} {v t : Trm} (hv : LF v) (h : LF t) {ρ : Nat → Nat} : I f (putAt v 0 t) ρ = I f t (cn (I f v ρ) ρ) := by
  rw [I_put hv t 0 ρ h, I_lift v 0 _ hv, le_zero, pe_zero]
/-- f grows with its parts, and is at least each of them -/
structure Gr (f : Nat → Nat → Nat) : Prop where
  mono : ∀ a b c d, a ≤ c → b ≤ d → f a b ≤ f c d
  l : ∀ a b, a ≤ f a b
  r : ∀ a b, b ≤ f a b
theorem gr_add : Gr (· + ·) := ⟨fun a b c d h k => Nat.add_le_add h k, fun a b => Nat.le_add_right a b, fun a b => Nat.le_add_left b a⟩
theorem gr_max : Gr max := ⟨fun a b c d h k => by omega, fun a b => by omega, fun a b => by omega⟩
theorem cn_le {x y : Nat} {ρ σ : Nat → Nat} (h : x ≤ y) (k : ∀ n, ρ n ≤ σ n) : ∀ n, cn x ρ n ≤ cn y σ n
  | 0 => h
  | n + 1 => k n
theorem I_mono {f : Nat → Nat → Nat} (F : Gr f) : ∀ (t : Trm) (ρ σ : Nat → Nat), LF t → (∀ n, ρ n ≤ σ n) → I f t ρ ≤ I f t σ
  | .at n, ρ, σ, h, k => k n
  | .fn a t, ρ, σ, h, k => by
    have := I_mono F t _ _ h (cn_le (Nat.le_refl 1) k)
    simp only [I]
    omega
  | .call (.fn a b) s, ρ, σ, h, k => by
    have h1 := I_mono F s _ _ h.2 k
    have h2 := I_mono F b _ _ h.1 (cn_le h1 k)
    have := F.mono _ _ _ _ h2 h1
    simp only [I]
    omega
  | .call (.at _) _, _, _, h, _ => h.elim
  | .call (.call _ _) _, _, _, h, _ => h.elim
  | .call (.pair _ _) _, _, _, h, _ => h.elim
  | .call (.fst _) _, _, _, h, _ => h.elim
  | .call (.snd _) _, _, _, h, _ => h.elim
  | .call (.inl _ _) _, _, _, h, _ => h.elim
  | .call (.inr _ _) _, _, _, h, _ => h.elim
  | .call (.cas _ _ _) _, _, _, h, _ => h.elim
  | .call (.abs _ _) _, _, _, h, _ => h.elim
  | .pair s t, ρ, σ, h, k => by
    have := F.mono _ _ _ _ (I_mono F s _ _ h.1 k) (I_mono F t _ _ h.2 k)
    simp only [I]
    omega
  | .fst t, ρ, σ, h, k => by
    have := I_mono F t _ _ h k
    simp only [I]
    omega
  | .snd t, ρ, σ, h, k => by
    have := I_mono F t _ _ h k
    simp only [I]
    omega
  | .inl t b, ρ, σ, h, k => by
    have := I_mono F t _ _ h k
    simp only [I]
    omega
  | .inr t b, ρ, σ, h, k => by
    have := I_mono F t _ _ h k
    simp only [I]
    omega
  | .cas s t u, ρ, σ, h, k => by
    have h1 := I_mono F s _ _ h.1 k
    have h2 := I_mono F t _ _ h.2.1 (cn_le h1 k)
    have h3 := I_mono F u _ _ h.2.2 (cn_le h1 k)
    have := F.mono _ _ _ _ h1 (F.mono _ _ _ _ h2 h3)
    simp only [I]
    omega
  | .abs t b, ρ, σ, h, k => by
    have := I_mono F t _ _ h k
    simp only [I]
    omega
theorem cn_pos {x : Nat} {ρ : Nat → Nat} (h : 1 ≤ x) (k : ∀ n, 1 ≤ ρ n) : ∀ n, 1 ≤ cn x ρ n
  | 0 => h
  | n + 1 => k n
/-- the height: no more than the size of heights -/
theorem I_ht : ∀ (t : Trm) (ρ : Nat → Nat), LF t → (∀ n, 1 ≤ ρ n) → t.ht ≤ I max t ρ
  | .at n, ρ, h, k => k n
  | .fn a t, ρ, h, k => by
    have := I_ht t _ h (cn_pos (Nat.le_refl 1) k)
    simp only [I, ht]
    omega
  | .call (.fn a b) s, ρ, h, k => by
    have h1 := I_ht s _ h.2 k
    have h2 := I_ht b _ h.1 (cn_pos (Nat.le_trans s.ht_pos h1) k)
    simp only [I, ht]
    omega
  | .call (.at _) _, _, h, _ => h.elim
  | .call (.call _ _) _, _, h, _ => h.elim
  | .call (.pair _ _) _, _, h, _ => h.elim
  | .call (.fst _) _, _, h, _ => h.elim
  | .call (.snd _) _, _, h, _ => h.elim
  | .call (.inl _ _) _, _, h, _ => h.elim
  | .call (.inr _ _) _, _, h, _ => h.elim
  | .call (.cas _ _ _) _, _, h, _ => h.elim
  | .call (.abs _ _) _, _, h, _ => h.elim
  | .pair s t, ρ, h, k => by
    have := I_ht s _ h.1 k
    have := I_ht t _ h.2 k
    simp only [I, ht]
    omega
  | .fst t, ρ, h, k => by
    have := I_ht t _ h k
    simp only [I, ht]
    omega
  | .snd t, ρ, h, k => by
    have := I_ht t _ h k
    simp only [I, ht]
    omega
  | .inl t b, ρ, h, k => by
    have := I_ht t _ h k
    simp only [I, ht]
    omega
  | .inr t b, ρ, h, k => by
    have := I_ht t _ h k
    simp only [I, ht]
    omega
  | .cas s t u, ρ, h, k => by
    have h1 := I_ht s _ h.1 k
    have h2 := I_ht t _ h.2.1 (cn_pos (Nat.le_trans s.ht_pos h1) k)
    have h3 := I_ht u _ h.2.2 (cn_pos (Nat.le_trans s.ht_pos h1) k)
    simp only [I, ht]
    omega
  | .abs t b, ρ, h, k => by
    have := I_ht t _ h k
    simp only [I, ht]
    omega
/-! ### steps -/
inductive Red : Trm → Trm → Prop where
  | con {t t' : Trm} : con t = some t' → Red t t'
  | fn {a : Fm} {t t' : Trm} : Red t t' → Red (.fn a t) (.fn a t')
  | callf {a : Fm} {b b' s : Trm} : Red b b' → Red (.call (.fn a b) s) (.call (.fn a b') s)
  | callr {s t t' : Trm} : Red t t' → Red (.call s t) (.call s t')
  | pairl {s s' t : Trm} : Red s s' → Red (.pair s t) (.pair s' t)
  | pairr {s t t' : Trm} : Red t t' → Red (.pair s t) (.pair s t')
  | fst {t t' : Trm} : Red t t' → Red (.fst t) (.fst t')
  | snd {t t' : Trm} : Red t t' → Red (.snd t) (.snd t')
  | inl {t t' : Trm} {b : Fm} : Red t t' → Red (.inl t b) (.inl t' b)
  | inr {t t' : Trm} {b : Fm} : Red t t' → Red (.inr t b) (.inr t' b)
  | cass {s s' t u : Trm} : Red s s' → Red (.cas s t u) (.cas s' t u)
  | cast {s t t' u : Trm} : Red t t' → Red (.cas s t u) (.cas s t' u)
  | casu {s t u u' : Trm} : Red u u' → Red (.cas s t u) (.cas s t u')
  | abs {t t' : Trm} {b : Fm} : Red t t' → Red (.abs t b) (.abs t' b)
theorem con_lf {t t' : Trm} (e : Trm.con t = some t') (h : LF t) : LF t' := by
  unfold Trm.con at e
  split at e <;> cases e
  · exact put_lf h.2 _ 0 h.1
  · exact h.1
  · exact h.2
  · rename_i s b t u
    exact put_lf (v := s) h.1 _ 0 h.2.1
  · rename_i s b t u
    exact put_lf (v := s) h.1 _ 0 h.2.2
theorem call_lf {s t : Trm} (h : LF (.call s t)) : ∃ a b, s = .fn a b ∧ LF b ∧ LF t := by
  cases s with
  | fn a b => exact ⟨a, b, rfl, h.1, h.2⟩
  | _ => exact h.elim
theorem red_lf {t t' : Trm} (r : Red t t') : LF t → LF t' := by
  induction r with
  | con e => exact fun h => con_lf e h
  | fn r ih => exact fun h => ih h
  | callf r ih => exact fun h => ⟨ih h.1, h.2⟩
  | callr r ih =>
    intro h
    obtain ⟨a, b, rfl, h1, h2⟩ := call_lf h
    exact ⟨h1, ih h2⟩
  | pairl r ih => exact fun h => ⟨ih h.1, h.2⟩
  | pairr r ih => exact fun h => ⟨h.1, ih h.2⟩
  | fst r ih => exact fun h => ih h
  | snd r ih => exact fun h => ih h
  | inl r ih => exact fun h => ih h
  | inr r ih => exact fun h => ih h
  | cass r ih => exact fun h => ⟨ih h.1, h.2⟩
  | cast r ih => exact fun h => ⟨h.1, ih h.2.1, h.2.2⟩
  | casu r ih => exact fun h => ⟨h.1, h.2.1, ih h.2.2⟩
  | abs r ih => exact fun h => ih h
/-- what a top redex becomes is smaller -/
theorem con_I {f : Nat → Nat → Nat} (F : Gr f) {t t' : Trm} (e : Trm.con t = some t') (h : LF t) (ρ : Nat → Nat) : I f t' ρ < I f t ρ := by
  unfold Trm.con at e
  split at e <;> cases e
  · rw [I_put0 h.2 h.1]
    simp only [I]
    rename_i a b s
    have := F.l (I f b (cn (I f s ρ) ρ)) (I f s ρ)
    omega
  · rename_i u
    simp only [I]
    have := F.l (I f t' ρ) (I f u ρ)
    omega
  · rename_i u
    simp only [I]
    have := F.r (I f u ρ) (I f t' ρ)
    omega
  · rename_i s b t u
    rw [I_put0 (v := s) h.1 h.2.1]
    simp only [I]
    have h1 := I_mono F t (cn (I f s ρ) ρ) (cn (1 + I f s ρ) ρ) h.2.1 (cn_le (by omega) fun _ => Nat.le_refl _)
    have h2 := F.l (I f t (cn (1 + I f s ρ) ρ)) (I f u (cn (1 + I f s ρ) ρ))
    have h3 := F.r (1 + I f s ρ) (f (I f t (cn (1 + I f s ρ) ρ)) (I f u (cn (1 + I f s ρ) ρ)))
    omega
  · rename_i s b t u
    rw [I_put0 (v := s) h.1 h.2.2]
    simp only [I]
    have h1 := I_mono F u (cn (I f s ρ) ρ) (cn (1 + I f s ρ) ρ) h.2.2 (cn_le (by omega) fun _ => Nat.le_refl _)
    have h2 := F.r (I f t (cn (1 + I f s ρ) ρ)) (I f u (cn (1 + I f s ρ) ρ))
    have h3 := F.r (1 + I f s ρ) (f (I f t (cn (1 + I f s ρ) ρ)) (I f u (cn (1 + I f s ρ) ρ)))
    omega
theorem cn_same {x : Nat} {ρ : Nat → Nat} : ∀ n, cn x ρ n ≤ cn x ρ n := fun _ => Nat.le_refl _
theorem red_max {t t' : Trm} (r : Red t t') : LF t → ∀ ρ, I max t' ρ ≤ I max t ρ := by
  induction r with
  | con e => exact fun h ρ => Nat.le_of_lt (con_I gr_max e h ρ)
  | fn r ih => exact fun h ρ => by have := ih h (cn 1 ρ); simp only [I]; omega
  | @callf a b b' s r ih => exact fun h ρ => by have := ih h.1 (cn (I max s ρ) ρ); simp only [I]; omega
  | callr r ih =>
    intro h ρ
    obtain ⟨a, b, rfl, h1, h2⟩ := call_lf h
    have i := ih h2 ρ
    have := I_mono gr_max b _ _ h1 (cn_le i fun n => Nat.le_refl (ρ n))
    simp only [I]
    omega
  | pairl r ih => exact fun h ρ => by have := ih h.1 ρ; simp only [I]; omega
  | pairr r ih => exact fun h ρ => by have := ih h.2 ρ; simp only [I]; omega
  | fst r ih => exact fun h ρ => by have := ih h ρ; simp only [I]; omega
  | snd r ih => exact fun h ρ => by have := ih h ρ; simp only [I]; omega
  | inl r ih => exact fun h ρ => by have := ih h ρ; simp only [I]; omega
  | inr r ih => exact fun h ρ => by have := ih h ρ; simp only [I]; omega
  | @cass s s' t u r ih =>
    intro h ρ
    have i := ih h.1 ρ
    have := I_mono gr_max t _ _ h.2.1 (cn_le i fun n => Nat.le_refl (ρ n))
    have := I_mono gr_max u _ _ h.2.2 (cn_le i fun n => Nat.le_refl (ρ n))
    simp only [I]
    omega
  | @cast s t t' u r ih => exact fun h ρ => by have := ih h.2.1 (cn (I max s ρ) ρ); simp only [I]; omega
  | @casu s t u u' r ih => exact fun h ρ => by have := ih h.2.2 (cn (I max s ρ) ρ); simp only [I]; omega
  | abs r ih => exact fun h ρ => by have := ih h ρ; simp only [I]; omega
theorem red_add {t t' : Trm} (r : Red t t') : LF t → ∀ ρ, I (· + ·) t' ρ < I (· + ·) t ρ := by
  induction r with
  | con e => exact fun h ρ => con_I gr_add e h ρ
  | fn r ih => exact fun h ρ => by have := ih h (cn 1 ρ); simp only [I]; omega
  | @callf a b b' s r ih => exact fun h ρ => by have := ih h.1 (cn (I (· + ·) s ρ) ρ); simp only [I]; omega
  | callr r ih =>
    intro h ρ
    obtain ⟨a, b, rfl, h1, h2⟩ := call_lf h
    have i := ih h2 ρ
    have := I_mono gr_add b _ _ h1 (cn_le (Nat.le_of_lt i) fun n => Nat.le_refl (ρ n))
    simp only [I]
    omega
  | pairl r ih => exact fun h ρ => by have := ih h.1 ρ; simp only [I]; omega
  | pairr r ih => exact fun h ρ => by have := ih h.2 ρ; simp only [I]; omega
  | fst r ih => exact fun h ρ => by have := ih h ρ; simp only [I]; omega
  | snd r ih => exact fun h ρ => by have := ih h ρ; simp only [I]; omega
  | inl r ih => exact fun h ρ => by have := ih h ρ; simp only [I]; omega
  | inr r ih => exact fun h ρ => by have := ih h ρ; simp only [I]; omega
  | @cass s s' t u r ih =>
    intro h ρ
    have i := ih h.1 ρ
    have := I_mono gr_add t _ _ h.2.1 (cn_le (Nat.le_of_lt i) fun n => Nat.le_refl (ρ n))
    have := I_mono gr_add u _ _ h.2.2 (cn_le (Nat.le_of_lt i) fun n => Nat.le_refl (ρ n))
    simp only [I]
    omega
  | @cast s t t' u r ih => exact fun h ρ => by have := ih h.2.1 (cn (I (· + ·) s ρ) ρ); simp only [I]; omega
  | @casu s t u u' r ih => exact fun h ρ => by have := ih h.2.2 (cn (I (· + ·) s ρ) ρ); simp only [I]; omega
  | abs r ih => exact fun h ρ => by have := ih h ρ; simp only [I]; omega
/-! ### the one normal term -/
def mf : Trm → Trm
  | .pair a _ => a
  | t => .fst t
def ms : Trm → Trm
  | .pair _ b => b
  | t => .snd t
def sh (ρ : Nat → Trm) : Nat → Trm := cn (.at 0) fun n => lift 1 0 (ρ n)
def NF : Trm → (Nat → Trm) → Trm
  | .at n, ρ => ρ n
  | .fn a b, ρ => .fn a (NF b (sh ρ))
  | .call (.fn _ b) s, ρ => NF b (cn (NF s ρ) ρ)
  | .call _ _, _ => .at 0
  | .pair s t, ρ => .pair (NF s ρ) (NF t ρ)
  | .fst t, ρ => mf (NF t ρ)
  | .snd t, ρ => ms (NF t ρ)
  | .inl t b, ρ => .inl (NF t ρ) b
  | .inr t b, ρ => .inr (NF t ρ) b
  | .cas s t u, ρ => match NF s ρ with
    | .inl x _ => NF t (cn x ρ)
    | .inr x _ => NF u (cn x ρ)
    | n => .cas n (NF t (sh ρ)) (NF u (sh ρ))
  | .abs t b, ρ => .abs (NF t ρ) b
theorem lift_lift {j k : Nat} : ∀ (t : Trm) (i : Nat), i ≤ k → lift j (k + 1) (lift 1 i t) = lift 1 i (lift j k t)
  | .at n, i, h => by
    simp only [lift]
    congr 1
    by_cases c : i ≤ n
    · by_cases c2 : k ≤ n
      · rw [if_pos c, if_pos c2, if_pos (by omega), if_pos (by omega)]
        omega
      · rw [if_pos c, if_neg c2, if_neg (by omega), if_pos (by omega)]
    · rw [if_neg c, if_neg (show ¬ k ≤ n by omega), if_neg (by omega), if_neg (by omega)]
  | .fn a t, i, h => by simp only [lift, lift_lift (j := j) (k := k + 1) t (i + 1) (by omega)]
  | .call s t, i, h => by simp only [lift, lift_lift s i h, lift_lift t i h]
  | .pair s t, i, h => by simp only [lift, lift_lift s i h, lift_lift t i h]
  | .fst t, i, h => by simp only [lift, lift_lift t i h]
  | .snd t, i, h => by simp only [lift, lift_lift t i h]
  | .inl t b, i, h => by simp only [lift, lift_lift t i h]
  | .inr t b, i, h => by simp only [lift, lift_lift t i h]
  | .cas s t u, i, h => by simp only [lift, lift_lift s i h, lift_lift (j := j) (k := k + 1) t (i + 1) (by omega), lift_lift (j := j) (k := k + 1) u (i + 1) (by omega)]
  | .abs t b, i, h => by simp only [lift, lift_lift t i h]
theorem sh_out {j k : Nat} {ρ : Nat → Trm} : (fun n => lift j (k + 1) (sh ρ n)) = sh fun n => lift j k (ρ n) := by
  funext n
  cases n with
  | zero => simp [sh, cn, lift]
  | succ n => exact lift_lift (ρ n) 0 (Nat.zero_le _)
theorem cn_out {j k : Nat} {x : Trm} {ρ : Nat → Trm} : (fun n => lift j k (cn x ρ n)) = cn (lift j k x) fun n => lift j k (ρ n) := by
  funext n
  cases n <;> rfl
theorem mf_out {j k : Nat} {t : Trm} : lift j k (mf t) = mf (lift j k t) := by cases t <;> rfl
theorem ms_out {j k : Nat} {t : Trm} : lift j k (ms t) = ms (lift j k t) := by cases t <;> rfl
theorem NF_out {j : Nat} : ∀ (t : Trm) (k : Nat) (ρ : Nat → Trm), LF t → lift j k (NF t ρ) = NF t fun n => lift j k (ρ n)
  | .at n, k, ρ, h => rfl
  | .fn a t, k, ρ, h => by simp only [NF, lift, NF_out t _ _ h, sh_out]
  | .call (.fn a b) s, k, ρ, h => by simp only [NF, NF_out b _ _ h.1, NF_out s _ _ h.2, cn_out]
  | .call (.at _) _, _, _, h => h.elim
  | .call (.call _ _) _, _, _, h => h.elim
  | .call (.pair _ _) _, _, _, h => h.elim
  | .call (.fst _) _, _, _, h => h.elim
  | .call (.snd _) _, _, _, h => h.elim
  | .call (.inl _ _) _, _, _, h => h.elim
  | .call (.inr _ _) _, _, _, h => h.elim
  | .call (.cas _ _ _) _, _, _, h => h.elim
  | .call (.abs _ _) _, _, _, h => h.elim
  | .pair s t, k, ρ, h => by simp only [NF, lift, NF_out s _ _ h.1, NF_out t _ _ h.2]
  | .fst t, k, ρ, h => by simp only [NF, mf_out, NF_out t _ _ h]
  | .snd t, k, ρ, h => by simp only [NF, ms_out, NF_out t _ _ h]
  | .inl t b, k, ρ, h => by simp only [NF, lift, NF_out t _ _ h]
  | .inr t b, k, ρ, h => by simp only [NF, lift, NF_out t _ _ h]
  | .cas s t u, k, ρ, h => by
    have e := NF_out (j := j) s k ρ h.1
    have ht := fun k ρ => NF_out (j := j) t k ρ h.2.1
    have hu := fun k ρ => NF_out (j := j) u k ρ h.2.2
    simp only [NF]
    rw [← e]
    cases NF s ρ <;> simp only [lift, ht, hu, cn_out, sh_out]
  | .abs t b, k, ρ, h => by simp only [NF, lift, NF_out t _ _ h]
theorem le_sh {j k : Nat} {ρ : Nat → Trm} : le j (k + 1) (sh ρ) = sh (le j k ρ) := by
  unfold sh
  rw [le_cn]
  congr 1
  funext n
  by_cases c : k ≤ n <;> simp [le, c]
theorem NF_lift {j : Nat} : ∀ (t : Trm) (k : Nat) (ρ : Nat → Trm), LF t → NF (lift j k t) ρ = NF t (le j k ρ)
  | .at n, k, ρ, h => by
    by_cases c : k ≤ n <;> simp [lift, NF, le, c]
  | .fn a t, k, ρ, h => by simp only [lift, NF, NF_lift t _ _ h, le_sh]
  | .call (.fn a b) s, k, ρ, h => by simp only [lift, NF, NF_lift b _ _ h.1, NF_lift s _ _ h.2, le_cn]
  | .call (.at _) _, _, _, h => h.elim
  | .call (.call _ _) _, _, _, h => h.elim
  | .call (.pair _ _) _, _, _, h => h.elim
  | .call (.fst _) _, _, _, h => h.elim
  | .call (.snd _) _, _, _, h => h.elim
  | .call (.inl _ _) _, _, _, h => h.elim
  | .call (.inr _ _) _, _, _, h => h.elim
  | .call (.cas _ _ _) _, _, _, h => h.elim
  | .call (.abs _ _) _, _, _, h => h.elim
  | .pair s t, k, ρ, h => by simp only [lift, NF, NF_lift s _ _ h.1, NF_lift t _ _ h.2]
  | .fst t, k, ρ, h => by simp only [lift, NF, NF_lift t _ _ h]
  | .snd t, k, ρ, h => by simp only [lift, NF, NF_lift t _ _ h]
  | .inl t b, k, ρ, h => by simp only [lift, NF, NF_lift t _ _ h]
  | .inr t b, k, ρ, h => by simp only [lift, NF, NF_lift t _ _ h]
  | .cas s t u, k, ρ, h => by simp only [lift, NF, NF_lift s _ _ h.1, NF_lift t _ _ h.2.1, NF_lift u _ _ h.2.2, le_cn, le_sh]
  | .abs t b, k, ρ, h => by simp only [lift, NF, NF_lift t _ _ h]
theorem NF_up {v : Trm} (hv : LF v) {d : Nat} {x : Trm} {ρ : Nat → Trm} : NF (lift (d + 1) 0 v) (cn x ρ) = NF (lift d 0 v) ρ := by
  rw [NF_lift v _ _ hv, NF_lift v _ _ hv, le_succ]
theorem NF_ush {v : Trm} (hv : LF v) {d : Nat} {ρ : Nat → Trm} : NF (lift (d + 1) 0 v) (sh ρ) = lift 1 0 (NF (lift d 0 v) ρ) := by
  unfold sh
  rw [NF_up hv, NF_out _ _ _ (lift_lf v 0 hv)]
theorem pe_sh {d : Nat} {v : Trm} {ρ : Nat → Trm} : pe (d + 1) (lift 1 0 v) (sh ρ) = sh (pe d v ρ) := by
  unfold sh
  rw [pe_cn]
  congr 1
  funext n
  by_cases c : n = d
  · simp [pe, c]
  · by_cases c2 : d < n <;> simp [pe, c, c2]
theorem NF_put {v : Trm} (hv : LF v) : ∀ (t : Trm) (d : Nat) (ρ : Nat → Trm), LF t → NF (putAt v d t) ρ = NF t (pe d (NF (lift d 0 v) ρ) ρ)
  | .at n, d, ρ, h => by
    by_cases c : n = d
    · simp [putAt, NF, pe, c]
    · by_cases c2 : d < n <;> simp [putAt, NF, pe, c, c2]
  | .fn a t, d, ρ, h => by simp only [putAt, NF, NF_put hv t _ _ h, NF_ush hv, pe_sh]
  | .call (.fn a b) s, d, ρ, h => by simp only [putAt, NF, NF_put hv b _ _ h.1, NF_put hv s _ _ h.2, NF_up hv, pe_cn]
  | .call (.at _) _, _, _, h => h.elim
  | .call (.call _ _) _, _, _, h => h.elim
  | .call (.pair _ _) _, _, _, h => h.elim
  | .call (.fst _) _, _, _, h => h.elim
  | .call (.snd _) _, _, _, h => h.elim
  | .call (.inl _ _) _, _, _, h => h.elim
  | .call (.inr _ _) _, _, _, h => h.elim
  | .call (.cas _ _ _) _, _, _, h => h.elim
  | .call (.abs _ _) _, _, _, h => h.elim
  | .pair s t, d, ρ, h => by simp only [putAt, NF, NF_put hv s _ _ h.1, NF_put hv t _ _ h.2]
  | .fst t, d, ρ, h => by simp only [putAt, NF, NF_put hv t _ _ h]
  | .snd t, d, ρ, h => by simp only [putAt, NF, NF_put hv t _ _ h]
  | .inl t b, d, ρ, h => by simp only [putAt, NF, NF_put hv t _ _ h]
  | .inr t b, d, ρ, h => by simp only [putAt, NF, NF_put hv t _ _ h]
  | .cas s t u, d, ρ, h => by simp only [putAt, NF, NF_put hv s _ _ h.1, NF_put hv t _ _ h.2.1, NF_put hv u _ _ h.2.2, NF_up hv, pe_cn, NF_ush hv, pe_sh]
  | .abs t b, d, ρ, h => by simp only [putAt, NF, NF_put hv t _ _ h]
theorem NF_put0 {v t : Trm} (hv : LF v) (h : LF t) {ρ : Nat → Trm} : NF (putAt v 0 t) ρ = NF t (cn (NF v ρ) ρ) := by
  rw [NF_put hv t 0 ρ h, NF_lift v 0 _ hv, le_zero, pe_zero]
theorem con_NF {t t' : Trm} (e : Trm.con t = some t') (h : LF t) (ρ : Nat → Trm) : NF t' ρ = NF t ρ := by
  unfold Trm.con at e
  split at e <;> cases e
  · rw [NF_put0 h.2 h.1]
    simp only [NF]
  · simp only [NF, mf]
  · simp only [NF, ms]
  · rename_i s b t u
    rw [NF_put0 (v := s) h.1 h.2.1]
    simp only [NF]
  · rename_i s b t u
    rw [NF_put0 (v := s) h.1 h.2.2]
    simp only [NF]
theorem red_NF {t t' : Trm} (r : Red t t') : LF t → ∀ ρ, NF t' ρ = NF t ρ := by
  induction r with
  | con e => exact fun h ρ => con_NF e h ρ
  | fn r ih => exact fun h ρ => by simp only [NF, ih h]
  | callf r ih => exact fun h ρ => by simp only [NF, ih h.1]
  | callr r ih =>
    intro h ρ
    obtain ⟨a, b, rfl, h1, h2⟩ := call_lf h
    simp only [NF, ih h2]
  | pairl r ih => exact fun h ρ => by simp only [NF, ih h.1]
  | pairr r ih => exact fun h ρ => by simp only [NF, ih h.2]
  | fst r ih => exact fun h ρ => by simp only [NF, ih h]
  | snd r ih => exact fun h ρ => by simp only [NF, ih h]
  | inl r ih => exact fun h ρ => by simp only [NF, ih h]
  | inr r ih => exact fun h ρ => by simp only [NF, ih h]
  | cass r ih => exact fun h ρ => by simp only [NF, ih h.1]
  | cast r ih => exact fun h ρ => by simp only [NF, ih h.2.1]
  | casu r ih => exact fun h ρ => by simp only [NF, ih h.2.2]
  | abs r ih => exact fun h ρ => by simp only [NF, ih h]
theorem sh_at : sh Trm.at = Trm.at := by
  funext n
  cases n <;> simp [sh, cn, lift]
theorem NF_id : ∀ (t : Trm), LF t → cnt t = 0 → NF t .at = t
  | .at n, h, e => rfl
  | .fn a t, h, e => by simp only [NF, sh_at, NF_id t h e]
  | .call (.fn a b) s, h, e => by simp [cnt, Trm.con] at e
  | .call (.at _) _, h, _ => h.elim
  | .call (.call _ _) _, h, _ => h.elim
  | .call (.pair _ _) _, h, _ => h.elim
  | .call (.fst _) _, h, _ => h.elim
  | .call (.snd _) _, h, _ => h.elim
  | .call (.inl _ _) _, h, _ => h.elim
  | .call (.inr _ _) _, h, _ => h.elim
  | .call (.cas _ _ _) _, h, _ => h.elim
  | .call (.abs _ _) _, h, _ => h.elim
  | .pair s t, h, e => by
    simp only [cnt] at e
    simp only [NF, NF_id s h.1 (by omega), NF_id t h.2 (by omega)]
  | .fst t, h, e => by
    simp only [cnt] at e
    have i := NF_id t h (by omega)
    simp only [NF, i]
    cases t with
    | pair a b => simp [Trm.con] at e
    | _ => rfl
  | .snd t, h, e => by
    simp only [cnt] at e
    have i := NF_id t h (by omega)
    simp only [NF, i]
    cases t with
    | pair a b => simp [Trm.con] at e
    | _ => rfl
  | .inl t b, h, e => by simp only [NF, NF_id t h e]
  | .inr t b, h, e => by simp only [NF, NF_id t h e]
  | .cas s t u, h, e => by
    simp only [cnt] at e
    have i := NF_id s h.1 (by omega)
    have i2 := NF_id t h.2.1 (by omega)
    have i3 := NF_id u h.2.2 (by omega)
    simp only [NF, i, sh_at, i2, i3]
    cases s with
    | inl a b => simp [Trm.con] at e
    | inr a b => simp [Trm.con] at e
    | _ => rfl
  | .abs t b, h, e => by simp only [NF, NF_id t h e]
/-! ### the two ways to step -/
def ins : Trm → Option Trm
  | .at _ => none
  | .fn a t => (ins t).map (.fn a)
  | .call s t => match ins t with
    | some x => some (.call s x)
    | none => match ins s with
      | some x => some (.call x t)
      | none => con (.call s t)
  | .pair s t => match ins t with
    | some x => some (.pair s x)
    | none => (ins s).map (.pair · t)
  | .fst t => match ins t with
    | some x => some (.fst x)
    | none => con (.fst t)
  | .snd t => match ins t with
    | some x => some (.snd x)
    | none => con (.snd t)
  | .inl t b => (ins t).map (.inl · b)
  | .inr t b => (ins t).map (.inr · b)
  | .cas s t u => match ins u with
    | some x => some (.cas s t x)
    | none => match ins t with
      | some x => some (.cas s x u)
      | none => match ins s with
        | some x => some (.cas x t u)
        | none => con (.cas s t u)
  | .abs t b => (ins t).map (.abs · b)
theorem map_red {t t' : Trm} {o : Option Trm} {g : Trm → Trm} (e : o.map g = some t') (h : ∀ x, o = some x → Red t (g x)) : Red t t' := by
  obtain ⟨x, e1, rfl⟩ := Option.map_eq_some_iff.mp e
  exact h x e1
theorem stp_red : ∀ (t : Trm) {t' : Trm}, LF t → stp t = some t' → Red t t'
  | .at n, t', h, e => by cases e
  | .fn a t, t', h, e => map_red e fun x e => .fn (stp_red t h e)
  | .call (.fn a b) s, t', h, e => .con (by simpa [stp, Trm.con] using e)
  | .call (.at _) _, _, h, _ => h.elim
  | .call (.call _ _) _, _, h, _ => h.elim
  | .call (.pair _ _) _, _, h, _ => h.elim
  | .call (.fst _) _, _, h, _ => h.elim
  | .call (.snd _) _, _, h, _ => h.elim
  | .call (.inl _ _) _, _, h, _ => h.elim
  | .call (.inr _ _) _, _, h, _ => h.elim
  | .call (.cas _ _ _) _, _, h, _ => h.elim
  | .call (.abs _ _) _, _, h, _ => h.elim
  | .pair s t, t', h, e => by
    simp only [stp] at e
    split at e
    · rename_i x c
      cases e
      exact .pairl (stp_red s h.1 c)
    · exact map_red e fun x e => .pairr (stp_red t h.2 e)
  | .fst t, t', h, e => by
    simp only [stp] at e
    split at e
    · rename_i x c
      cases e
      exact .con c
    · exact map_red e fun x e => .fst (stp_red t h e)
  | .snd t, t', h, e => by
    simp only [stp] at e
    split at e
    · rename_i x c
      cases e
      exact .con c
    · exact map_red e fun x e => .snd (stp_red t h e)
  | .inl t b, t', h, e => map_red e fun x e => .inl (stp_red t h e)
  | .inr t b, t', h, e => map_red e fun x e => .inr (stp_red t h e)
  | .cas s t u, t', h, e => by
    simp only [stp] at e
    split at e
    · rename_i x c
      cases e
      exact .con c
    · split at e
      · rename_i x c
        cases e
        exact .cass (stp_red s h.1 c)
      · split at e
        · rename_i x c
          cases e
          exact .cast (stp_red t h.2.1 c)
        · exact map_red e fun x e => .casu (stp_red u h.2.2 e)
  | .abs t b, t', h, e => map_red e fun x e => .abs (stp_red t h e)
theorem ins_red : ∀ (t : Trm) {t' : Trm}, LF t → ins t = some t' → Red t t'
  | .at n, t', h, e => by cases e
  | .fn a t, t', h, e => map_red e fun x e => .fn (ins_red t h e)
  | .call (.fn a b) s, t', h, e => by
    simp only [ins] at e
    split at e
    · rename_i x c
      cases e
      exact .callr (ins_red s h.2 c)
    · split at e
      · rename_i x c
        cases e
        obtain ⟨y, e1, rfl⟩ := Option.map_eq_some_iff.mp c
        exact .callf (ins_red b h.1 e1)
      · exact .con e
  | .call (.at _) _, _, h, _ => h.elim
  | .call (.call _ _) _, _, h, _ => h.elim
  | .call (.pair _ _) _, _, h, _ => h.elim
  | .call (.fst _) _, _, h, _ => h.elim
  | .call (.snd _) _, _, h, _ => h.elim
  | .call (.inl _ _) _, _, h, _ => h.elim
  | .call (.inr _ _) _, _, h, _ => h.elim
  | .call (.cas _ _ _) _, _, h, _ => h.elim
  | .call (.abs _ _) _, _, h, _ => h.elim
  | .pair s t, t', h, e => by
    simp only [ins] at e
    split at e
    · rename_i x c
      cases e
      exact .pairr (ins_red t h.2 c)
    · exact map_red e fun x e => .pairl (ins_red s h.1 e)
  | .fst t, t', h, e => by
    simp only [ins] at e
    split at e
    · rename_i x c
      cases e
      exact .fst (ins_red t h c)
    · exact .con e
  | .snd t, t', h, e => by
    simp only [ins] at e
    split at e
    · rename_i x c
      cases e
      exact .snd (ins_red t h c)
    · exact .con e
  | .inl t b, t', h, e => map_red e fun x e => .inl (ins_red t h e)
  | .inr t b, t', h, e => map_red e fun x e => .inr (ins_red t h e)
  | .cas s t u, t', h, e => by
    simp only [ins] at e
    split at e
    · rename_i x c
      cases e
      exact .casu (ins_red u h.2.2 c)
    · split at e
      · rename_i x c
        cases e
        exact .cast (ins_red t h.2.1 c)
      · split at e
        · rename_i x c
          cases e
          exact .cass (ins_red s h.1 c)
        · exact .con e
  | .abs t b, t', h, e => map_red e fun x e => .abs (ins_red t h e)
theorem stp_none : ∀ (t : Trm), stp t = none → cnt t = 0
  | .at n, e => rfl
  | .fn a t, e => stp_none t (Option.map_eq_none_iff.mp e)
  | .call s t, e => by
    simp only [stp] at e
    split at e
    · cases e
    · rename_i c
      split at e
      · cases e
      · rename_i c2
        simp only [cnt, c, stp_none s c2, stp_none t (Option.map_eq_none_iff.mp e)]
        rfl
  | .pair s t, e => by
    simp only [stp] at e
    split at e
    · cases e
    · rename_i c2
      simp only [cnt, stp_none s c2, stp_none t (Option.map_eq_none_iff.mp e)]
  | .fst t, e => by
    simp only [stp] at e
    split at e
    · cases e
    · rename_i c
      simp only [cnt, c, stp_none t (Option.map_eq_none_iff.mp e)]
      rfl
  | .snd t, e => by
    simp only [stp] at e
    split at e
    · cases e
    · rename_i c
      simp only [cnt, c, stp_none t (Option.map_eq_none_iff.mp e)]
      rfl
  | .inl t b, e => stp_none t (Option.map_eq_none_iff.mp e)
  | .inr t b, e => stp_none t (Option.map_eq_none_iff.mp e)
  | .cas s t u, e => by
    simp only [stp] at e
    split at e
    · cases e
    · rename_i c
      split at e
      · cases e
      · rename_i c2
        split at e
        · cases e
        · rename_i c3
          simp only [cnt, c, stp_none s c2, stp_none t c3, stp_none u (Option.map_eq_none_iff.mp e)]
          rfl
  | .abs t b, e => stp_none t (Option.map_eq_none_iff.mp e)
theorem ins_none : ∀ (t : Trm), ins t = none → cnt t = 0
  | .at n, e => rfl
  | .fn a t, e => ins_none t (Option.map_eq_none_iff.mp e)
  | .call s t, e => by
    simp only [ins] at e
    split at e
    · cases e
    · rename_i c
      split at e
      · cases e
      · rename_i c2
        simp only [cnt, e, ins_none s c2, ins_none t c]
        rfl
  | .pair s t, e => by
    simp only [ins] at e
    split at e
    · cases e
    · rename_i c2
      simp only [cnt, ins_none t c2, ins_none s (Option.map_eq_none_iff.mp e)]
  | .fst t, e => by
    simp only [ins] at e
    split at e
    · cases e
    · rename_i c
      simp only [cnt, e, ins_none t c]
      rfl
  | .snd t, e => by
    simp only [ins] at e
    split at e
    · cases e
    · rename_i c
      simp only [cnt, e, ins_none t c]
      rfl
  | .inl t b, e => ins_none t (Option.map_eq_none_iff.mp e)
  | .inr t b, e => ins_none t (Option.map_eq_none_iff.mp e)
  | .cas s t u, e => by
    simp only [ins] at e
    split at e
    · cases e
    · rename_i c
      split at e
      · cases e
      · rename_i c2
        split at e
        · cases e
        · rename_i c3
          simp only [cnt, e, ins_none s c3, ins_none t c2, ins_none u c]
          rfl
  | .abs t b, e => ins_none t (Option.map_eq_none_iff.mp e)
/-! ### many steps -/
inductive Reds : Trm → Trm → Prop where
  | refl {t : Trm} : Reds t t
  | tail {s t u : Trm} : Reds s t → Red t u → Reds s u
theorem reds_lf {t t' : Trm} (r : Reds t t') (h : LF t) : LF t' := by
  induction r with
  | refl => exact h
  | tail _ r ih => exact red_lf r ih
theorem reds_max {t t' : Trm} (r : Reds t t') (h : LF t) (ρ : Nat → Nat) : I max t' ρ ≤ I max t ρ := by
  induction r with
  | refl => exact Nat.le_refl _
  | tail q r ih => exact Nat.le_trans (red_max r (reds_lf q h) ρ) ih
theorem reds_NF {t t' : Trm} (r : Reds t t') (h : LF t) (ρ : Nat → Trm) : NF t' ρ = NF t ρ := by
  induction r with
  | refl => rfl
  | tail q r ih => exact (red_NF r (reds_lf q h) ρ).trans ih
theorem reds_one {t a b : Trm} (h : LF t) (r : Reds t a) (r' : Reds t b) (ha : cnt a = 0) (hb : cnt b = 0) : a = b := by
  rw [← NF_id a (reds_lf r h) ha, ← NF_id b (reds_lf r' h) hb, reds_NF r h, reds_NF r' h]
end Trm
end Fx
/-! xs[::-1] of a list. -/
namespace Fx
open PySem PySem.Spec L2 PyProof.Rows RZ
theorem pe_slR {X : Cx} {e : Expr} {st : Option Expr} {te : TE} {ts : TO} {pos p2 : Pos} (he : PE X e te) (hs : PO X st ts) (hsub : ∀ a b : Addr, subscripted (.Slice none none st p2) false (.ref a) (.ref b) = operate [.ref a, .ref b] (getItem (.ref a) (.ref b))) :
    PE X (.Subscript e (.Slice none none st p2) pos) (fun σ H Q => te σ H fun x H1 => ts σ H1 fun o H2 => o = some (-1) ∧ ∃ a xs, x = .ref a ∧ SqL X.K H2 a xs ∧ ∀ p, H2 p = none → Q (.ref p) (upd H2 p (.lst xs.reverse))) := by
  refine ⟨fun pins s σ H Q I h => ?_⟩
  refine Subscript_ (thn (he.run pins s σ H _ I h) fun v s1 ⟨x, H1, I1, r1, q1⟩ => ?_)
  refine wpAny_Slice ?_
  rw [evalPart_none]
  refine wpAny_pure (wpAny_pure ?_)
  refine thn (hs.run pins s1 σ H1 _ I1 q1) fun vk s3 ⟨o, H3, I3, pk, eo, a, xs, ex, hx, q⟩ => ?_
  subst eo ex
  cases (show v = Value.ref a from r1)
  have I4 : Inv X pins σ H3 { s3 with heap := s3.heap.push { cls := .type "slice", data := .fields #[.none, .none, vk] } } := I3.kept (t' := s3.toks) fun b ob q => Heap.get?_push_of_some _ q
  obtain ⟨its, r, ht, hz⟩ := I4.list hx
  have hlen := r.length
  show wpAny (model X.prog X.w) X.A (subscriptTail e (.Slice none none st p2) (.ref a) (.ref s3.heap.objs.size)) (EP X pins σ Q) X.xe { s3 with heap := s3.heap.push { cls := .type "slice", data := .fields #[.none, .none, vk] } }
  refine tail_any (ops := [.ref a, .ref s3.heap.objs.size]) ht.isList.typeIs slot_list_getitem.lookup ?_ (hsub a s3.heap.objs.size)
  refine wpAny_getItem_list_slice ht.isList (Heap.IsSliceOf.new ..) .none .none pk (by decide) ?_ (by rw [List.size_toArray]; omega)
  rw [PySem.W.krv_pick]
  refine ⟨.ref _, _, I4.laid (t' := s3.toks) (o := .lst xs.reverse) (fun b ob q => Heap.get?_push_of_some _ q) (Nat.le_refl _) ?_, rfl, q _ (I4.hok.fresh (Nat.le_refl _))⟩
  exact ⟨by rw [List.length_reverse]; omega, _, 0, r.reverse, Heap.get?_push_size _ rfl⟩
def gSlR (x : D) (o : Option Int) : M D := match x, o with
  | .lst ds, some (-1) => M.pure (.lst ds.reverse)
  | _, _ => M.no
def cSlR (f : EF) (st : Env → M (Option Int)) : EF := fun env => M.bind (f env) fun d => M.bind (st env) fun i => M.bind (M.see d) fun d' => gSlR d' i
section
variable {X : Cx} {W : WX} {a : Expr} {st : Option Expr} {fa : EF} {fs : Env → M (Option Int)} {pos p2 : Pos}
theorem pf_slR (ha : PE X a (tE (cfg X) W fa)) (hs : PO X st (tO (cfg X) W fs)) (hsub : ∀ a b : Addr, subscripted (.Slice none none st p2) false (.ref a) (.ref b) = operate [.ref a, .ref b] (getItem (.ref a) (.ref b)) := by intros; rfl) : PE X (.Subscript a (.Slice none none st p2) pos) (tE (cfg X) W (cSlR fa fs)) := by
  refine pe_imp (pe_slR ha hs hsub) fun σ H Q ⟨ρ, env, ro, w, hS, hE, q⟩ => ?_
  refine tR_seq hS hE q fun d w1 v ρ1 H1 x1 s1 r1 q1 => ?_
  refine tR_seq s1 (hE.ext x1) q1 fun i w2 i' ρ2 H2 x2 s2 ei q2 => ?_
  cases ei
  have sd := seen_of s2 (Rep.ext x2 d r1)
  replace q2 : AfterR (cfg X) (Rep (cfg X)) W σ ρ2 H2 ro (gSlR (see ro w2 d) i ro w2) Q := q2
  generalize see ro w2 d = d3 at sd q2
  unfold gSlR at q2
  split at q2
  · obtain ⟨a, vs, rfl, h, r⟩ := sd.lst
    exact ⟨rfl, a, vs, rfl, h, ok_lst s2 r.reverse q2⟩
  · exact (show False from q2).elim
end
section
variable {ro w : List D} {env : Env} {fa : EF} {fs : Env → M (Option Int)}
@[simp] theorem x_slR : cSlR fa fs env ro w = (fa env ro w).an fun d w1 => (fs env ro w1).an fun i w2 => gSlR (see ro w2 d) i ro w2 := by
  show M.bind (fa env) _ ro w = _
  simp
@[simp] theorem slR_lst {ds : List D} : gSlR (.lst ds) (some (-1)) ro w = .ok (.lst ds.reverse) w := rfl
end
end Fx
/-! How great a drawn term can become. -/
namespace Fx
open PySem PySem.Spec L2
namespace Trm
def cs : Nat → Nat
  | 0 => 2
  | d + 1 => 7 + 5 * cs d + cs d * cs d
def cl : Nat → Nat
  | 0 => 1
  | d + 1 => 2 * cl d + 4
theorem cs_two : ∀ d, 2 ≤ cs d
  | 0 => by decide
  | d + 1 => by have := cs_two d; simp only [cs]; omega
def SzN (a b : Nat) (t : Trm) (c l : Nat) : Prop := LF t ∧ ∀ (ρ : Nat → Nat) (R : Nat), 1 ≤ R → (∀ n, ρ n ≤ R) → I (· + ·) t ρ ≤ a + c * R ∧ I max t ρ ≤ b + l + R
def Sz (d : Nat) (t : Trm) : Prop := SzN 0 0 t (cs d) (cl d)
def SzI (d : Nat) (t : Trm) : Prop := SzN 1 1 t (cs d) (cl d)
theorem cs_exp {d R : Nat} : cs (d + 1) * R = 7 * R + 5 * (cs d * R) + cs d * cs d * R := by
  simp only [cs, Nat.add_mul, Nat.mul_assoc]
theorem cs_R {d R : Nat} : 2 * R ≤ cs d * R := Nat.mul_le_mul_right R (cs_two d)
theorem cs_RR {d R : Nat} : 2 * (cs d * R) ≤ cs d * cs d * R := by
  rw [Nat.mul_assoc]
  exact Nat.mul_le_mul_right _ (cs_two d)
theorem sz_at {d n : Nat} : Sz d (.at n) := ⟨trivial, fun ρ R h k => by
  have := k n
  have := cs_R (d := d) (R := R)
  simp only [I]
  omega⟩
theorem sz_fnat {a : Fm} : Sz 0 (.fn a (.at 0)) := ⟨trivial, fun ρ R h k => by
  simp only [I, cn, cs, cl]
  omega⟩
theorem cn_R {x R : Nat} {ρ : Nat → Nat} (h : x ≤ R) (k : ∀ n, ρ n ≤ R) : ∀ n, cn x ρ n ≤ R
  | 0 => h
  | n + 1 => k n
theorem sz_fn {d : Nat} {a : Fm} {t : Trm} (h : Sz d t) : Sz (d + 1) (.fn a t) := ⟨h.1, fun ρ R r k => by
  have := h.2 (cn 1 ρ) R r (cn_R r k)
  have := cs_R (d := d) (R := R)
  rw [cs_exp]
  simp only [I, cl]
  omega⟩
theorem sz_pair {d : Nat} {s t : Trm} (h : Sz d s) (g : Sz d t) : Sz (d + 1) (.pair s t) := ⟨⟨h.1, g.1⟩, fun ρ R r k => by
  have := h.2 ρ R r k
  have := g.2 ρ R r k
  rw [cs_exp]
  simp only [I, cl]
  omega⟩
theorem sz_un {d : Nat} {t u : Trm} (h : Sz d t) (l : LF u) (e : ∀ f ρ, I f u ρ = 1 + I f t ρ) : Sz (d + 1) u := ⟨l, fun ρ R r k => by
  have := h.2 ρ R r k
  rw [cs_exp, e, e]
  simp only [cl]
  omega⟩
theorem sz_fst {d : Nat} {t : Trm} (h : Sz d t) : Sz (d + 1) (.fst t) := sz_un h h.1 fun _ _ => rfl
theorem sz_snd {d : Nat} {t : Trm} (h : Sz d t) : Sz (d + 1) (.snd t) := sz_un h h.1 fun _ _ => rfl
theorem sz_inl {d : Nat} {t : Trm} {b : Fm} (h : Sz d t) : Sz (d + 1) (.inl t b) := sz_un h h.1 fun _ _ => rfl
theorem sz_inr {d : Nat} {t : Trm} {b : Fm} (h : Sz d t) : Sz (d + 1) (.inr t b) := sz_un h h.1 fun _ _ => rfl
theorem sz_abs {d : Nat} {t : Trm} {b : Fm} (h : Sz d t) : Sz (d + 1) (.abs t b) := sz_un h h.1 fun _ _ => rfl
theorem sz_fp {d : Nat} {s t : Trm} (h : Sz d s) (g : Sz d t) : Sz (d + 1) (.fst (.pair s t)) := ⟨⟨h.1, g.1⟩, fun ρ R r k => by
  have := h.2 ρ R r k
  have := g.2 ρ R r k
  rw [cs_exp]
  simp only [I, cl]
  omega⟩
theorem sz_call {d : Nat} {a : Fm} {s t : Trm} (h : Sz d s) (g : Sz d t) : Sz (d + 1) (.call (.fn a t) s) := ⟨⟨g.1, h.1⟩, fun ρ R r k => by
  have h1 := h.2 ρ R r k
  have hR := cs_R (d := d) (R := R)
  have h2 := (g.2 (cn (I (· + ·) s ρ) ρ) (cs d * R) (by omega) (cn_R (by omega) fun n => by have := k n; omega)).1
  have h3 := (g.2 (cn (I max s ρ) ρ) (cl d + R) (by omega) (cn_R (by omega) fun n => by have := k n; omega)).2
  rw [← Nat.mul_assoc] at h2
  rw [cs_exp]
  simp only [I, cl]
  omega⟩
theorem szi_of {d : Nat} {t : Trm} (h : Sz d t) : SzI d t := ⟨h.1, fun ρ R r k => by
  have := h.2 ρ R r k
  omega⟩
theorem szi_inl {d : Nat} {t : Trm} {b : Fm} (h : Sz d t) : SzI d (.inl t b) := ⟨h.1, fun ρ R r k => by
  have := h.2 ρ R r k
  simp only [I]
  omega⟩
theorem szi_inr {d : Nat} {t : Trm} {b : Fm} (h : Sz d t) : SzI d (.inr t b) := ⟨h.1, fun ρ R r k => by
  have := h.2 ρ R r k
  simp only [I]
  omega⟩
theorem sz_case1 {d : Nat} {s : Trm} (h : SzI d s) : Sz (d + 1) (.cas s (.at 0) (.at 0)) := ⟨⟨h.1, trivial, trivial⟩, fun ρ R r k => by
  have := h.2 ρ R r k
  rw [cs_exp]
  simp only [I, cn, cl]
  omega⟩
theorem I_lift1 {f : Nat → Nat → Nat} {t : Trm} {x : Nat} {ρ : Nat → Nat} (h : LF t) : I f (lift 1 0 t) (cn x ρ) = I f t ρ := by
  rw [I_lift t 0 _ h, le_succ (d := 0), le_zero]
theorem sz_case2 {d : Nat} {s t : Trm} (h : SzI d s) (g : Sz d t) : Sz (d + 1) (.cas s (lift 1 0 t) (.fst (.pair (lift 1 0 t) (.at 0)))) := ⟨⟨h.1, lift_lf t 0 g.1, lift_lf t 0 g.1, trivial⟩, fun ρ R r k => by
  have h1 := h.2 ρ R r k
  have h2 := g.2 ρ R r k
  rw [cs_exp]
  simp only [I, I_lift1 g.1, cl]
  simp only [cn]
  omega⟩
end Trm
end Fx
/-! set(xs): of whole numbers, of pairs. -/
namespace Fx
open PySem PySem.Spec L2 PyProof.Rows
/-- a new set -/
def set0 (w : World) : Obj := { cls := .type "set", dict := none, data := .set #[] 0 (.fresh 0 0 (!w.params.followText "set-order")) }
section
variable {P : Program} {w : World} {A : Around} {E : Value → Shared → Prop} {s : Shared}
set_option maxHeartbeats 3200000

def it_list (l : Addr) : Obj := { cls := .type "list_iterator", data := .fields #[.ref l, .int 0 0] }
theorem set_of_list {l : Addr} {its : Array Value} {Q : Value → Shared → Prop} {Done : Shared → Prop} (hh : A.handled = none) (hl : s.heap.IsList l its)
    (loop : ∀ R : Result → Shared → Prop, (∀ s', Done s' → R (.ok (.ret .none)) s') →
      codeAny (model P w) A.in1.in1 (.builtin "set.update.loop" ⟨[.ref s.heap.objs.size, .ref (s.heap.objs.size + 1)], []⟩) R { s with heap := (s.heap.push (set0 w)).push (it_list l) })
    (h : ∀ s', Done s' → Q (.ref s.heap.objs.size) s') : wpAny (model P w) A (call (.type "set") [.ref l]) Q E s := by
  have CS := F.called_set
  obtain ⟨c, tl, r1⟩ := CS.mro
  have r2 := CS.made; have r3 := CS.sub; have r4 := CS.notType; have r5 := CS.canCreate
  have r6 := F.typeCall_set_1 (.ref l)
  refine wpAny_call (codeAny_of_tree (?_ : wpAny (model P w) _ (callAny (.type "set") _) _ _ _))
  refine wpAny_pure ⟨Code.quiet_builtin _ (by decide +kernel), codeAny_builtin F.entry_type_call ?_⟩
  rw [Around.under_plain (weight_type_call_type "set" [.ref l] []) rfl]
  repeat (any_goals (first | assumption | wp_step))
  refine codeAny_mono (code_set_led1 (.ref l) (E := E) (Q₁ := fun v t => v = .ref s.heap.objs.size ∧ t = { s with heap := s.heap.push (set0 w) }) ⟨rfl, rfl⟩) fun r t hr => ?_
  cases r with
  | error e => exact hr
  | ok fl =>
    cases fl with
    | ret v =>
      obtain ⟨rfl, rfl⟩ := hr
      have a0 : (s.heap.push (set0 w)).get? s.heap.objs.size = some (set0 w) := Heap.get?_push_size _ rfl
      have a1 : Shared.TypeIs { s with heap := s.heap.push (set0 w) } (.ref s.heap.objs.size) "set" := ⟨_, a0, rfl⟩
      have r7 := CS.init.lookup
      have r8 := CS.init.bind (.ref s.heap.objs.size)
      repeat (any_goals (first | assumption | wp_step))
      refine codeAny_mono (codeAny_call_builtin (R := wants (fun r t => r = .none ∧ Done t) E) CS.init.plain F.entry_set_init (check_set_init_1 a1 ?_)) fun r t hr => ?_
      · obtain ⟨⟨oc, od, oD, os⟩, g1, g2, g3, g4⟩ := hl
        simp only at g2 g4
        subst g2 g4
        have b1 : (s.heap.push (set0 w)).get? l = some { cls := .type "list", dict := od, data := .seq its g3, slots := os } := Heap.get?_push_of_some _ g1
        have b2 := F.sub_list_set
        have b3 := F.sub_list_frozenset
        have b4 : (Value.type "list" == Value.type "dict") = false := by decide
        have b5 : (s.heap.push (set0 w)).IsList l its := ⟨_, b1, rfl, g3, rfl⟩
        unfold Builtin.«set.__init__» noKeywords Builtin.Frozenset.updateFrom
        generalize hPI : pyIter = PI
        wp_walk
        subst hPI
        refine wpAny_pyIter_list b5 (wpAny_bind (wpAny_runValue ?_))
        have zz : (s.heap.push (set0 w)).objs.size = s.heap.objs.size + 1 := Heap.size_push ..
        dsimp only
        rw [zz]
        refine loop _ fun s' d => ?_
        refine (wpAny_pure ?_ : wpAny _ _ _ _ _ _)
        refine (?_ : wpAny _ _ (ret Value.none) _ _ _)
        exact wpAny_pure ⟨rfl, d⟩
      · cases r with
        | error e => exact hr
        | ok fl =>
          cases fl with
          | ret v =>
            obtain ⟨rfl, d⟩ := hr
            repeat (any_goals (first | assumption | wp_step))
            exact h _ d
          | _ => exact hr.elim
    | _ => exact hr.elim


def it_tuple (l : Addr) : Obj := { cls := .type "tuple_iterator", data := .fields #[.ref l, .int 0 0] }
theorem set_of_tuple {l : Addr} {its : Array Value} {Q : Value → Shared → Prop} {Done : Shared → Prop} (hh : A.handled = none) (hl : s.heap.IsTuple l its)
    (loop : ∀ R : Result → Shared → Prop, (∀ s', Done s' → R (.ok (.ret .none)) s') →
      codeAny (model P w) A.in1.in1 (.builtin "set.update.loop" ⟨[.ref s.heap.objs.size, .ref (s.heap.objs.size + 1)], []⟩) R { s with heap := (s.heap.push (set0 w)).push (it_tuple l) })
    (h : ∀ s', Done s' → Q (.ref s.heap.objs.size) s') : wpAny (model P w) A (call (.type "set") [.ref l]) Q E s := by
  have CS := F.called_set
  obtain ⟨c, tl, r1⟩ := CS.mro
  have r2 := CS.made; have r3 := CS.sub; have r4 := CS.notType; have r5 := CS.canCreate
  have r6 := F.typeCall_set_1 (.ref l)
  refine wpAny_call (codeAny_of_tree (?_ : wpAny (model P w) _ (callAny (.type "set") _) _ _ _))
  refine wpAny_pure ⟨Code.quiet_builtin _ (by decide +kernel), codeAny_builtin F.entry_type_call ?_⟩
  rw [Around.under_plain (weight_type_call_type "set" [.ref l] []) rfl]
  repeat (any_goals (first | assumption | wp_step))
  refine codeAny_mono (code_set_led1 (.ref l) (E := E) (Q₁ := fun v t => v = .ref s.heap.objs.size ∧ t = { s with heap := s.heap.push (set0 w) }) ⟨rfl, rfl⟩) fun r t hr => ?_
  cases r with
  | error e => exact hr
  | ok fl =>
    cases fl with
    | ret v =>
      obtain ⟨rfl, rfl⟩ := hr
      have a0 : (s.heap.push (set0 w)).get? s.heap.objs.size = some (set0 w) := Heap.get?_push_size _ rfl
      have a1 : Shared.TypeIs { s with heap := s.heap.push (set0 w) } (.ref s.heap.objs.size) "set" := ⟨_, a0, rfl⟩
      have r7 := CS.init.lookup
      have r8 := CS.init.bind (.ref s.heap.objs.size)
      repeat (any_goals (first | assumption | wp_step))
      refine codeAny_mono (codeAny_call_builtin (R := wants (fun r t => r = .none ∧ Done t) E) CS.init.plain F.entry_set_init (check_set_init_1 a1 ?_)) fun r t hr => ?_
      · obtain ⟨⟨oc, od, oD, os⟩, g1, g2, g3, g4⟩ := hl
        simp only at g2 g4
        subst g2 g4
        have b1 : (s.heap.push (set0 w)).get? l = some { cls := .type "tuple", dict := od, data := .seq its g3, slots := os } := Heap.get?_push_of_some _ g1
        have b2 := F.sub_tuple_set
        have b3 := F.sub_tuple_frozenset
        have b4 : (Value.type "tuple" == Value.type "dict") = false := by decide
        have b5 : (s.heap.push (set0 w)).IsTuple l its := ⟨_, b1, rfl, g3, rfl⟩
        unfold Builtin.«set.__init__» noKeywords Builtin.Frozenset.updateFrom
        generalize hPI : pyIter = PI
        wp_walk
        subst hPI
        refine wpAny_pyIter_tuple b5 (wpAny_bind (wpAny_runValue ?_))
        have zz : (s.heap.push (set0 w)).objs.size = s.heap.objs.size + 1 := Heap.size_push ..
        dsimp only
        rw [zz]
        refine loop _ fun s' d => ?_
        refine (wpAny_pure ?_ : wpAny _ _ _ _ _ _)
        refine (?_ : wpAny _ _ (ret Value.none) _ _ _)
        exact wpAny_pure ⟨rfl, d⟩
      · cases r with
        | error e => exact hr
        | ok fl =>
          cases fl with
          | ret v =>
            obtain ⟨rfl, d⟩ := hr
            repeat (any_goals (first | assumption | wp_step))
            exact h _ d
          | _ => exact hr.elim
    | _ => exact hr.elim

end
section
variable {P : Program} {w : World} {A : Around} {E : Value → Shared → Prop} {s : Shared}
theorem lt_of_list {l : Addr} {its : Array Value} {h : Heap} (hl : h.IsList l its) : l < h.objs.size := Heap.lt_size hl.choose_spec.1
theorem lt_of_tuple {l : Addr} {its : Array Value} {h : Heap} (hl : h.IsTuple l its) : l < h.objs.size := Heap.lt_size hl.choose_spec.1
theorem two_push {h : Heap} {o o2 : Obj} : (h.push o).objs.size = h.objs.size + 1 := Heap.size_push ..
theorem none_at {h : Heap} {b : Addr} (hb : h.objs.size ≤ b) : h.get? b = none := by
  cases q : h.get? b with
  | none => rfl
  | some o =>
    exact absurd (Nat.lt_of_lt_of_le (Heap.lt_size q) hb) (Nat.lt_irrefl _)
theorem ne_succ {l n : Nat} (h : l < n) : l ≠ n + 1 := by omega
theorem not_two {n l : Nat} (h : l < n) : n ∉ [n + 1, l] := by simp; omega
theorem not_two2 {n b : Nat} (h : b < n) : b ∉ [n, n + 1] := by simp; omega
/-- set(xs), xs a list of ints -/
theorem call_set_ints {l : Addr} {its : Array Value} {ns : List Int} {Q : Value → Shared → Prop} (hh : A.handled = none) (hl : s.heap.IsList l its) (hi : IntsAre its.toList ns) (hb : ns.length + 1 < scanBound)
    (h : ∀ (h' : Heap) (tk c : Nat), SetR w h' s.heap.objs.size (fun j => decide (j ∈ ns)) c → c ≤ ns.length → (∀ b o, s.heap.get? b = some o → h'.get? b = some o) → Q (.ref s.heap.objs.size) { s with heap := h', toks := tk }) :
    wpAny (model P w) A (call (.type "set") [.ref l]) Q E s := by
  have lt := lt_of_list hl
  have hz : its.size = ns.length := by
    have q := IntsAre.length hi
    rwa [Array.length_toList] at q
  have z1 : (s.heap.push (set0 w)).objs.size = s.heap.objs.size + 1 := Heap.size_push ..
  refine set_of_list (Done := fun s' => ∃ c, (SetR w s'.heap s.heap.objs.size (fun j => decide (j ∈ ns)) c ∧ c ≤ ns.length) ∧ (s'.gens = s.gens ∧ s'.drawn = s.drawn ∧ s'.os = s.os) ∧ ∀ b o, s.heap.get? b = some o → s'.heap.get? b = some o) hh hl (fun R k => ?_) fun s' ⟨c, ⟨r, hc⟩, ⟨e1, e2, e3⟩, kp⟩ => ?_
  · have b1 : ((s.heap.push (set0 w)).push (it_list l)).get? (s.heap.objs.size + 1) = some (it_list l) := by
      rw [← z1]
      exact Heap.get?_push_size _ rfl
    refine set_update_ints ((Walks.list (by simp [hh]) (s.heap.objs.size + 1) l (ne_succ lt) its).toS) s.heap.objs.size (not_two lt) ns hz hb (fun i v hv => ?_) (its.size - 0) 0 _ (by omega) (Nat.zero_le _) ⟨⟨_, b1, rfl, rfl⟩, (hl.push _).push _⟩ ⟨0, Nat.le_refl 0, setR_new_at (Heap.get?_push_of_some _ (Heap.get?_push_size _ rfl))⟩ fun s' c m hc r => k s' ⟨c, ⟨r, by omega⟩, ⟨m.gens, m.drawn, m.os⟩, fun b o e => ?_⟩
    · have hi2 : i < ns.length := by rw [← hz]; exact (Array.getElem?_eq_some_iff.mp hv).1
      obtain ⟨t, e⟩ := IntsAre.int_at hi i v (by rw [Array.getElem?_toList]; exact hv)
      refine ⟨ns[i], t, List.getElem?_eq_getElem hi2, ?_⟩
      rw [e, List.getD_eq_getElem?_getD, List.getElem?_eq_getElem hi2]
      rfl
    · exact m.heap b o (not_two2 (Heap.lt_size e)) (Heap.get?_push_of_some _ (Heap.get?_push_of_some _ e))
  · obtain ⟨h', g, d, tk, os⟩ := s'
    cases e1; cases e2; cases e3
    exact h h' tk c r hc kp
/-- set(xs), xs a tuple of tuples of ints -/
theorem call_set_tupsT {l : Addr} {its : Array Value} (ks : List (Addr × List Int)) {Q : Value → Shared → Prop} (hh : A.handled = none) (hl : s.heap.IsTuple l its) (hit : its.toList = ks.map fun p => Value.ref p.1)
    (hk : ∀ p ∈ ks, IsT P w s.heap p.2 p.1) (hfew : ks.length < 64) (hu : A.units + 3 < cLine)
    (h : ∀ (h' : Heap) (tk : Nat) L es ep t, SetTR P w h' s.heap.objs.size L es ep t → Got ks ks.length L → (∀ b o, s.heap.get? b = some o → h'.get? b = some o) → Q (.ref s.heap.objs.size) { s with heap := h', toks := tk }) :
    wpAny (model P w) A (call (.type "set") [.ref l]) Q E s := by
  have lt := lt_of_tuple hl
  have hz : its.size = ks.length := by
    have q := congrArg List.length hit
    rwa [Array.length_toList, List.length_map] at q
  have z1 : (s.heap.push (set0 w)).objs.size = s.heap.objs.size + 1 := Heap.size_push ..
  refine set_of_tuple (Done := fun s' => ∃ L es ep t, (SetTR P w s'.heap s.heap.objs.size L es ep t ∧ Got ks ks.length L) ∧ (s'.gens = s.gens ∧ s'.drawn = s.drawn ∧ s'.os = s.os) ∧ ∀ b o, s.heap.get? b = some o → s'.heap.get? b = some o) hh hl (fun R k => ?_) fun s' ⟨L, es, ep, t, ⟨r, hc⟩, ⟨e1, e2, e3⟩, kp⟩ => ?_
  · have b1 : ((s.heap.push (set0 w)).push (it_tuple l)).get? (s.heap.objs.size + 1) = some (it_tuple l) := by
      rw [← z1]
      exact Heap.get?_push_size _ rfl
    refine set_update_tups ((Walks.tuple (by simp [hh]) (s.heap.objs.size + 1) l (ne_succ lt) its).toS) s.heap.objs.size (not_two lt) ks hz hfew (fun i v hv => ?_) s.heap hk (none_at (Nat.le_refl _)) (fun b hb => none_at (by rw [List.mem_singleton.mp hb]; exact Nat.le_succ _)) (by simpa using hu) (its.size - 0) 0 _ (by omega) (Nat.zero_le _) ⟨⟨_, b1, rfl, rfl⟩, (hl.push _).push _⟩ (fun b o e => Heap.get?_push_of_some _ (Heap.get?_push_of_some _ e)) ⟨[], #[], 0, _, setTR_fresh (Heap.get?_push_of_some _ (Heap.get?_push_size _ rfl)), Got.zero ks⟩ fun s' L es ep t m r g kp => k s' ⟨L, es, ep, t, ⟨r, by rw [← hz]; exact g⟩, ⟨m.gens, m.drawn, m.os⟩, kp⟩
    · have q : its.toList[i]? = some v := by rw [Array.getElem?_toList]; exact hv
      rw [hit, List.getElem?_map] at q
      cases hq : ks[i]? with
      | none => rw [hq] at q; cases q
      | some p =>
        rw [hq] at q
        exact ⟨p, rfl, (Option.some.inj q).symm⟩
  · obtain ⟨h', g, d, tk, os⟩ := s'
    cases e1; cases e2; cases e3
    exact h h' tk L es ep t r hc kp
end
section
variable {X : Cx}
def rSetOfI (K : PySem.W.Frag) (w : World) : List V → Hp → VK → Prop := fun xs H Q => ∃ (l : Addr) (ns : List Int), xs = [V.ref l] ∧ SqL K H l (ns.map V.int) ∧ ns.length < 64 ∧ ∀ a c, H a = none → c ≤ ns.length → Q (.ref a) (upd H a (SetO w a (fun j => decide (j ∈ ns)) c))
theorem cr_setOfI (hc : X.calm = true) : CallR X (.type "set") (rSetOfI X.K X.w) := by
  rintro pins s σ H xs us Q I r ⟨l, ns, rfl, hl, hf, q⟩
  rw [Vals.ref1 r]
  obtain ⟨its, rv, pl, hz⟩ := I.list hl
  have hn : H s.heap.objs.size = none := I.hok.fresh (Nat.le_refl _)
  refine call_set_ints (ns := ns) (I.ok.hd hc) pl.isList (by simpa using rv.ints) (by unfold scanBound; omega) fun h' tk c R hle k => ?_
  exact ⟨.ref s.heap.objs.size, _, I.laid (t' := tk) k (Nat.le_refl _) (setO_new R), rfl, q _ c hn hle⟩
def rSetOfTT (K : PySem.W.Frag) (P : Program) (w : World) : List V → Hp → VK → Prop := fun xs H Q => ∃ (l : Addr) (ks : List (Addr × List Int)), xs = [V.ref l] ∧ SqT K H l (ks.map fun p => V.ref p.1) ∧ (∀ p ∈ ks, SqT K H p.1 (p.2.map V.int)) ∧ ks.length < 64 ∧
  ∀ a L, H a = none → (∀ p ∈ L, p ∈ ks) → (∀ p ∈ ks, p.2 ∈ L.map (·.2)) → Q (.ref a) (upd H a (SetTO P w a L))
theorem cr_setOfTT (hc : X.calm = true) (hu : X.A.units + 64 < cLine) : CallR X (.type "set") (rSetOfTT X.K X.prog X.w) := by
  rintro pins s σ H xs us Q I r ⟨l, ks, rfl, hl, hk, hf, q⟩
  rw [Vals.ref1 r]
  obtain ⟨its, rv, pl, hz⟩ := I.tuple hl
  have hn : H s.heap.objs.size = none := I.hok.fresh (Nat.le_refl _)
  refine call_set_tupsT (P := X.prog) (w := X.w) ks (I.ok.hd hc) pl (by simpa using refs_of_vals rv) (fun p hp => I.isT (hk p hp)) hf (by omega) fun h' tk L es ep t R g k => ?_
  refine ⟨.ref s.heap.objs.size, upd H s.heap.objs.size (SetTO X.prog X.w s.heap.objs.size L), I.laid (t' := tk) k (Nat.le_refl _) (setTO_new R.t0), rfl, q _ L hn (fun p hp => ?_) fun p hp => ?_⟩
  · exact List.mem_of_mem_take (g.sub p hp)
  · exact g.all p (by rw [List.take_length]; exact hp)
end
end Fx
/-! sorted(set(xs)). -/
namespace Fx
open PySem PySem.Spec L2 PyProof.Rows
/-! ### ascending, each once -/
section
variable {α : Type} {f : α → Int}
def insK (f : α → Int) (x : α) : List α → List α
  | [] => [x]
  | y :: l => if f x < f y then x :: y :: l else if f x = f y then y :: l else y :: insK f x l
def setK (f : α → Int) (l : List α) : List α := l.foldr (insK f) []
def Asc (f : α → Int) (l : List α) : Prop := l.Pairwise fun x y => f x < f y
theorem mem_insK {x z : α} : ∀ {l : List α}, (∀ y ∈ l, f x = f y → x = y) → (z ∈ insK f x l ↔ z = x ∨ z ∈ l)
  | [], _ => by simp [insK]
  | y :: l, h => by
    have ih := mem_insK (x := x) (z := z) (l := l) fun y hy => h y (List.mem_cons_of_mem _ hy)
    unfold insK
    split
    · simp
    · split
      · rename_i e
        have := h y (by simp) e
        subst this
        simp
      · rw [List.mem_cons, ih, List.mem_cons]
        constructor
        · rintro (a | a | a) <;> simp [a]
        · rintro (a | a | a) <;> simp [a]
theorem asc_insK {x : α} : ∀ {l : List α}, Asc f l → Asc f (insK f x l) ∧ ∀ z ∈ insK f x l, f z = f x ∨ z ∈ l
  | [], _ => by simp [insK, Asc]
  | y :: l, h => by
    obtain ⟨h1, h2⟩ := List.pairwise_cons.mp h
    obtain ⟨i1, i2⟩ := asc_insK (x := x) h2
    unfold insK
    split
    · rename_i c
      refine ⟨List.pairwise_cons.mpr ⟨fun z hz => ?_, h⟩, fun z hz => ?_⟩
      · rcases List.mem_cons.mp hz with rfl | hz
        · exact c
        · have := h1 z hz
          omega
      · rcases List.mem_cons.mp hz with rfl | hz
        · exact .inl rfl
        · exact .inr hz
    · split
      · exact ⟨h, fun z hz => .inr hz⟩
      · rename_i c1 c2
        refine ⟨List.pairwise_cons.mpr ⟨fun z hz => ?_, i1⟩, fun z hz => ?_⟩
        · rcases i2 z hz with e | e
          · omega
          · exact h1 z e
        · rcases List.mem_cons.mp hz with rfl | hz
          · exact .inr List.mem_cons_self
          · exact (i2 z hz).imp id (List.mem_cons_of_mem _)
theorem asc_setK : ∀ (l : List α), Asc f (setK f l)
  | [] => List.Pairwise.nil
  | x :: l => (asc_insK (x := x) (asc_setK l)).1
theorem mem_setK {z : α} : ∀ {l : List α}, (∀ x ∈ l, ∀ y ∈ l, f x = f y → x = y) → (z ∈ setK f l ↔ z ∈ l)
  | [], _ => by simp [setK]
  | x :: l, h => by
    have hl : ∀ a ∈ l, ∀ b ∈ l, f a = f b → a = b := fun a ha b hb => h a (List.mem_cons_of_mem _ ha) b (List.mem_cons_of_mem _ hb)
    have e : setK f (x :: l) = insK f x (setK f l) := rfl
    rw [e, mem_insK fun y hy => h x (by simp) y (List.mem_cons_of_mem _ ((mem_setK hl).mp hy)), mem_setK hl, List.mem_cons]
theorem asc_eq : ∀ {l m : List α}, Asc f l → Asc f m → (∀ z, z ∈ l ↔ z ∈ m) → l = m
  | [], [], _, _, _ => rfl
  | [], y :: m, _, _, h => by have := (h y).mpr (by simp); cases this
  | x :: l, [], _, _, h => by have := (h x).mp (by simp); cases this
  | x :: l, y :: m, a, b, h => by
    obtain ⟨a1, a2⟩ := List.pairwise_cons.mp a
    obtain ⟨b1, b2⟩ := List.pairwise_cons.mp b
    have e : x = y := by
      rcases List.mem_cons.mp ((h x).mp (by simp)) with e | e
      · exact e
      · rcases List.mem_cons.mp ((h y).mpr (by simp)) with e2 | e2
        · exact e2.symm
        · have := b1 x e
          have := a1 y e2
          omega
    subst e
    rw [asc_eq a2 b2 fun z => ⟨fun hz => ?_, fun hz => ?_⟩]
    · rcases List.mem_cons.mp ((h z).mp (List.mem_cons_of_mem _ hz)) with e | e
      · subst e
        have := a1 z hz
        omega
      · exact e
    · rcases List.mem_cons.mp ((h z).mpr (List.mem_cons_of_mem _ hz)) with e | e
      · subst e
        have := b1 z hz
        omega
      · exact e
end
/-! ### the rule -/
def asInt : D → Option Int
  | .int i => some i
  | _ => none
def asInts : List D → Option (List Int)
  | [] => some []
  | d :: ds => match asInt d, asInts ds with
    | some i, some is => some (i :: is)
    | _, _ => none
def asPair : D → Option (List Int)
  | .tup [.int x, .int y] => if (0 ≤ x ∧ x < 64) ∧ (0 ≤ y ∧ y < 64) then some [x, y] else none
  | _ => none
def asPairs : List D → Option (List (List Int))
  | [] => some []
  | d :: ds => match asPair d, asPairs ds with
    | some i, some is => some (i :: is)
    | _, _ => none
def pairK : List Int → Int := TS.code 64
def ofInts (l : List Int) : D := .tup (l.map .int)
def sortSet (d : D) : Option (List D) := match d with
  | .lst ds => (match asInts ds with
    | some ns => if ns.length < 64 then some ((setK id ns).map .int) else none
    | none => none)
  | .tup ds => (match asPairs ds with
    | some ps => if ps.length < 64 then some ((setK pairK ps).map ofInts) else none
    | none => none)
  | _ => none
def gSortSet (d : D) : M D := fun _ w => match sortSet d with
  | some ds => .ok (.lst ds) w
  | none => .no
theorem asInts_some : ∀ {ds : List D} {ns : List Int}, asInts ds = some ns → ds = ns.map .int
  | [], ns, h => by cases h; rfl
  | d :: ds, ns, h => by
    unfold asInts at h
    cases e1 : asInt d with
    | none => simp [e1] at h
    | some i =>
      cases e2 : asInts ds with
      | none => simp [e1, e2] at h
      | some is =>
        simp only [e1, e2, Option.some.injEq] at h
        subst h
        rw [asInts_some e2]
        cases d <;> simp_all [asInt]
theorem asInts_map : ∀ (ns : List Int), asInts (ns.map .int) = some ns
  | [] => rfl
  | n :: ns => by simp [asInts, asInt, asInts_map ns]
theorem asPair_some {d : D} {l : List Int} (h : asPair d = some l) : ∃ x y, d = .tup [.int x, .int y] ∧ l = [x, y] ∧ (0 ≤ x ∧ x < 64) ∧ (0 ≤ y ∧ y < 64) := by
  unfold asPair at h
  split at h
  · rename_i x y
    split at h
    · rename_i c
      cases h
      exact ⟨x, y, rfl, rfl, c⟩
    · cases h
  · cases h
theorem asPairs_some : ∀ {ds : List D} {ps : List (List Int)}, asPairs ds = some ps → ds = ps.map ofInts ∧ ∀ l ∈ ps, ∃ x y, l = [x, y] ∧ (0 ≤ x ∧ x < 64) ∧ (0 ≤ y ∧ y < 64)
  | [], ps, h => by cases h; exact ⟨rfl, fun l hl => by cases hl⟩
  | d :: ds, ps, h => by
    unfold asPairs at h
    cases e1 : asPair d with
    | none => simp [e1] at h
    | some i =>
      cases e2 : asPairs ds with
      | none => simp [e1, e2] at h
      | some is =>
        simp only [e1, e2, Option.some.injEq] at h
        subst h
        obtain ⟨h1, h2⟩ := asPairs_some e2
        obtain ⟨x, y, rfl, rfl, c⟩ := asPair_some e1
        refine ⟨by rw [h1]; rfl, fun l hl => ?_⟩
        rcases List.mem_cons.mp hl with rfl | hl
        · exact ⟨x, y, rfl, c⟩
        · exact h2 l hl
theorem asPairs_map : ∀ {ps : List (List Int)}, (∀ l ∈ ps, ∃ x y, l = [x, y] ∧ (0 ≤ x ∧ x < 64) ∧ (0 ≤ y ∧ y < 64)) → asPairs (ps.map ofInts) = some ps
  | [], _ => rfl
  | l :: ps, h => by
    obtain ⟨x, y, rfl, c⟩ := h l (by simp)
    have ih := asPairs_map fun l hl => h l (List.mem_cons_of_mem _ hl)
    simp [asPairs, ih, ofInts, asPair, c]
theorem pairK_two {x y : Int} : pairK [x, y] = x * 64 + y := code_pair x y
theorem pairK_inj {l m : List Int} (hl : ∃ x y, l = [x, y] ∧ (0 ≤ x ∧ x < 64) ∧ (0 ≤ y ∧ y < 64)) (hm : ∃ x y, m = [x, y] ∧ (0 ≤ x ∧ x < 64) ∧ (0 ≤ y ∧ y < 64)) (e : pairK l = pairK m) : l = m := by
  obtain ⟨x, y, rfl, h1, h2⟩ := hl
  obtain ⟨u, v, rfl, h3, h4⟩ := hm
  rw [pairK_two, pairK_two] at e
  have e1 : x = u := by omega
  have e2 : y = v := by omega
  rw [e1, e2]
section
variable {X : Cx} {W : WX}
def kSS (X : Cx) (Q : VK) : VK := fun v H1 => rSortedSet X.w [v] H1 Q ∨ rSortedT X.K X.prog X.w [v] H1 Q
def rSS (X : Cx) : List V → Hp → VK → Prop := fun xs H Q => rSetOfI X.K X.w xs H (kSS X Q) ∨ rSetOfTT X.K X.prog X.w xs H (kSS X Q)
theorem reps_maps {C : Cfg} {ρ : Zn} {H : Hp} {α : Type} {f : α → D} {g : α → V} : ∀ {l : List α}, (∀ x ∈ l, Rep C ρ H (f x) (g x)) → Reps C ρ H (l.map f) (l.map g)
  | [], _ => rfl
  | x :: l, h => ⟨_, _, rfl, h x (by simp), reps_maps fun y hy => h y (List.mem_cons_of_mem _ hy)⟩
theorem ints_reps {C : Cfg} {ρ : Zn} {H : Hp} : ∀ {ns : List Int} {vs : List V}, Reps C ρ H (ns.map .int) vs → vs = ns.map V.int
  | [], vs, h => h
  | n :: ns, vs, ⟨v, r, e, h1, h2⟩ => by
    subst e
    rw [ints_reps h2, show v = V.int n from h1]
    rfl
theorem tups_reps {C : Cfg} {ρ : Zn} {H : Hp} : ∀ {ps : List (List Int)} {vs : List V}, Reps C ρ H (ps.map ofInts) vs → ∃ ks : List (Addr × List Int), vs = ks.map (fun p => V.ref p.1) ∧ ks.map (·.2) = ps ∧ ∀ p ∈ ks, Rep C ρ H (ofInts p.2) (.ref p.1)
  | [], vs, h => ⟨[], h, rfl, fun p hp => by cases hp⟩
  | n :: ps, vs, ⟨v, r, e, h1, h2⟩ => by
    subst e
    obtain ⟨ks, rfl, rfl, h3⟩ := tups_reps h2
    obtain ⟨a, us, rfl, q1, q2⟩ := h1
    refine ⟨(a, n) :: ks, rfl, rfl, fun p hp => ?_⟩
    rcases List.mem_cons.mp hp with rfl | hp
    · exact ⟨a, us, rfl, q1, q2⟩
    · exact h3 p hp
theorem ofInts_sq {C : Cfg} {ρ : Zn} {H : Hp} {l : List Int} {a : Addr} (h : Rep C ρ H (ofInts l) (.ref a)) : SqT C.K H a (l.map V.int) := by
  obtain ⟨b, us, e, q1, q2⟩ := h
  cases e
  rw [← ints_reps q2]
  exact Still.sqT q1
theorem ok_sortSet : Ok1 (cfg X) (rSS X) gSortSet := by
  intro W σ ρ H ro w d x Q hS hd q
  unfold gSortSet at q
  cases e : sortSet d with
  | none => simp only [e] at q; exact (show False from q).elim
  | some out =>
    simp only [e] at q
    cases d with
    | lst ds =>
      unfold sortSet at e
      cases e1 : asInts ds with
      | none => simp [e1] at e
      | some ns =>
        simp only [e1] at e
        by_cases c : ns.length < 64
        · simp only [if_pos c, Option.some.injEq] at e
          subst e
          have e2 := asInts_some e1
          subst e2
          obtain ⟨a, vs, rfl, hs, r⟩ := hd.lst
          rw [ints_reps r] at hs
          refine .inl ⟨a, ns, rfl, hs, c, fun b n hb hn => .inl ⟨b, _, n, rfl, by rw [upd_same], by omega, fun ms p hp hm hl hpn => ?_⟩⟩
          have em : ms = setK id ns := asc_eq (f := id) hp (asc_setK ns) fun z => by
            rw [hm z, mem_setK (f := id) fun x _ y _ h => h]
            simp
          subst em
          have s1 : RepS (cfg X) ρ (upd H b (SetO X.w b (fun j => decide (j ∈ ns)) n)) (ro ++ w) := reps_new hS hb
          refine ok_lst (C := cfg X) (W := W) (σ := σ) s1 (reps_maps (f := D.int) (g := V.int) fun _ _ => rfl) (fun u ρ' H' w' x' => ?_) p hpn
          exact q u ρ' H' ((ext_new hS hb).trans w') x'
        · simp only [if_neg c] at e
          cases e
    | tup ds =>
      unfold sortSet at e
      cases e1 : asPairs ds with
      | none => simp [e1] at e
      | some ps =>
        simp only [e1] at e
        by_cases c : ps.length < 64
        · simp only [if_pos c, Option.some.injEq] at e
          subst e
          obtain ⟨e2, hb⟩ := asPairs_some e1
          subst e2
          obtain ⟨a, vs, rfl, hs, r⟩ := hd.tup
          obtain ⟨ks, rfl, rfl, hk⟩ := tups_reps r
          refine .inr ⟨a, ks, rfl, hs, fun p hp => ofInts_sq (hk p hp), by simpa using c, fun b L hbn hL1 hL2 => .inr ⟨b, L, 2, 64, rfl, by rw [upd_same], fun p hp => ofInts_sq (Rep.ext (ext_new hS hbn) _ (hk p (hL1 p hp))), by decide, fun p hp => ?_, fun L' p pm nd hfew hp hpn => ?_⟩⟩
          · obtain ⟨x, y, e, h1, h2⟩ := hb p.2 (List.mem_map_of_mem (hL1 p hp))
            rw [e]
            refine ⟨rfl, fun m hm => ?_⟩
            rcases List.mem_cons.mp hm with rfl | hm
            · exact h1
            · rcases List.mem_cons.mp hm with rfl | hm
              · exact h2
              · cases hm
          · have hin : ∀ q ∈ L', q ∈ ks := fun q hq => hL1 q (pm.mem_iff.mp hq)
            have hbd : ∀ q ∈ L', ∃ x y, q.2 = [x, y] ∧ (0 ≤ x ∧ x < 64) ∧ (0 ≤ y ∧ y < 64) := fun q hq => hb q.2 (List.mem_map_of_mem (hin q hq))
            have asc : Asc pairK (L'.map (·.2)) := by
              have h1 : (L'.map (·.2)).Pairwise fun u v => pairK u ≤ pairK v := List.pairwise_map.mpr hp
              refine List.Pairwise.imp_of_mem (fun {u v} hu hv h => ?_) (h1.and nd)
              obtain ⟨q1, hq1, rfl⟩ := List.mem_map.mp hu
              obtain ⟨q2, hq2, rfl⟩ := List.mem_map.mp hv
              have : pairK q1.2 ≠ pairK q2.2 := fun e => h.2 (pairK_inj (hbd q1 hq1) (hbd q2 hq2) e)
              have := h.1
              omega
            have em : L'.map (·.2) = setK pairK (ks.map (·.2)) := asc_eq asc (asc_setK _) fun z => by
              rw [mem_setK fun x hx y hy h => pairK_inj (hb x hx) (hb y hy) h]
              constructor
              · intro hz
                obtain ⟨q1, hq1, rfl⟩ := List.mem_map.mp hz
                exact List.mem_map_of_mem (hin q1 hq1)
              · intro hz
                obtain ⟨q1, hq1, rfl⟩ := List.mem_map.mp hz
                obtain ⟨q2, hq2, e⟩ := List.mem_map.mp (hL2 q1 hq1)
                rw [← e]
                exact List.mem_map_of_mem (pm.mem_iff.mpr hq2)
            rw [← em, List.map_map] at q
            have s1 : RepS (cfg X) ρ (upd H b (SetTO X.prog X.w b L)) (ro ++ w) := reps_new hS hbn
            refine ok_lst (C := cfg X) (W := W) (σ := σ) s1 (reps_maps (f := ofInts ∘ fun q : Addr × List Int => q.2) (g := fun q : Addr × List Int => V.ref q.1) fun q hq => Rep.ext (ext_new hS hbn) _ (hk q (hin q hq))) (fun u ρ' H' w' x' => ?_) p hpn
            exact q u ρ' H' ((ext_new hS hbn).trans w') x'
        · simp only [if_neg c] at e
          cases e
    | _ => cases e
theorem okc_sortSet {C : Cfg} {X : Cx} (h : C = cfg X) : Ok1 C (rSS X) gSortSet := h ▸ ok_sortSet
/-- sorted(set(e)) -/
theorem pf_sortSet {e : Expr} {p1 p2 q1 q2 : Pos} {fs : Env → M (List D)} (hc : X.calm = true) (hu : X.A.units + 70 < cLine) (hg : Gl X "sorted") (hm : X.mg "sorted" = none) (hg2 : Gl X "set") (hm2 : X.mg "set" = none) (ha : PA X [e] (tA (cfg X) W fs))
    (hs1 : starEach [e] X.env = (false, eval e X.env) :: starEach [] X.env := by rfl) (hs2 : starEach [Expr.Call (.Name "set" p2) [e] [] q2] X.env = (false, eval (Expr.Call (.Name "set" p2) [e] [] q2) X.env) :: starEach [] X.env := by rfl) :
    PE X (.Call (.Name "sorted" p1) [.Call (.Name "set" p2) [e] [] q2] [] q1) (tE (cfg X) W (cCall (one gSortSet) fs)) := by
  refine pe_imp (pe_callB ((cr_sortedSet hc).or (cr_sortedT hc)) hg hm (by decide +kernel) (pa_cons (pe_callTy ((cr_setOfI hc).or (cr_setOfTT hc (by omega))) hg2 hm2 (by decide +kernel) ha (he := hs1)) pa_nil hs2) (he := hs2)) fun σ H Q q => ?_
  exact tE_call (okL_one ok_sortSet) q
end
end Fx
/-! Dict comprehensions over an attribute's dict; list(range(n)). -/
namespace Fx
open PySem PySem.Spec L2
/-! ### a hidden object comes forth, and may change -/
theorem out_mut {C : Cfg} {W : WX} {σ : L2.St} {ρ1 ρ2 : Zn} {H1 H2 : Hp} {ro w v1 : List D} {a : Addr} {d : D} {Q : VK} (s1 : RepS C ρ1 H1 v1) (x : Ext ρ1 ⟨ρ2.r, ρ1.h⟩ H1 H2) (hh : ρ2.h = a :: ρ1.h) (s : RepS C ρ2 H2 (ro ++ w)) (ha : H1 a = none)
    (hd : ∀ ρ', ExtR ρ2 ρ' H2 H2 → RepO C ρ' H2 d a) (q : AfterR C (Rep C) W σ ρ1 H1 ro (mNew d ro w) Q) : Q (.ref a) H2 := by
  have am : a ∈ ρ2.h := by rw [hh]; exact List.mem_cons_self
  have an := (s.hid a am).1
  have xe : ExtR ρ2 ⟨ρ2.r ++ [a], ρ1.h⟩ H2 H2 := ⟨⟨[a], rfl⟩, fun b u eb n => ⟨eb, by
    show b ∉ ρ2.r ++ [a]
    rw [List.mem_append, not_or]
    exact ⟨n.1, fun z => n.2 (by rw [List.mem_singleton.mp z]; exact am)⟩, fun z => n.2 (by rw [hh]; exact List.mem_cons_of_mem _ z)⟩⟩
  have se : RepS C ⟨ρ2.r ++ [a], ρ1.h⟩ H2 ((ro ++ w) ++ [d]) := by
    refine ⟨by simp [s.len]; omega, ?_, fun i b d' h1 h2 => ?_, fun b hb => ⟨?_, (s.hid b (by rw [hh]; exact List.mem_cons_of_mem _ hb)).2⟩⟩
    · show (ρ2.r ++ [a]).Nodup
      rw [List.nodup_append]
      refine ⟨s.nd, by simp, fun b hb c hc e' => ?_⟩
      rw [List.mem_singleton] at hc
      rw [e', hc] at hb
      exact an hb
    · replace h1 : (ρ2.r ++ [a])[i]? = some b := h1
      by_cases hi : i < ρ2.r.length
      · rw [List.getElem?_append_left hi] at h1
        rw [List.getElem?_append_left (by rw [← s.len]; exact hi)] at h2
        have q' := s.obj i b d' h1 h2
        cases d' with
        | lst ds => obtain ⟨vs, e, r⟩ := q'; exact ⟨vs, e, Reps.extR xe ds r⟩
        | dic ks ds => obtain ⟨vs, e, k, r⟩ := q'; exact ⟨vs, e, k, Reps.extR xe ds r⟩
        | dct ks ds => obtain ⟨es, ep, as, vs, e, en, nd, rk, r⟩ := q'; exact ⟨es, ep, as, vs, e, en, nd, Reps.extR xe ks rk, Reps.extR xe ds r⟩
        | ins c ns ds => obtain ⟨A, dx, fs, m, e, k, r⟩ := q'; exact ⟨A, dx, fs, m, e, k, Reps.extR xe ds r⟩
        | _ => exact (show False from q').elim
      · have hl := (List.getElem?_eq_some_iff.mp h1).1
        rw [List.length_append, List.length_singleton] at hl
        have ei : i = ρ2.r.length := by omega
        subst ei
        rw [List.getElem?_append_right (Nat.le_refl _), Nat.sub_self] at h1
        rw [List.getElem?_append_right (by rw [s.len]; exact Nat.le_refl _), s.len, Nat.sub_self] at h2
        simp only [List.getElem?_cons_zero, Option.some.injEq] at h1 h2
        subst h1
        subst h2
        exact hd _ xe
    · show b ∉ ρ2.r ++ [a]
      rw [List.mem_append, not_or]
      exact ⟨(s.hid b (by rw [hh]; exact List.mem_cons_of_mem _ hb)).1, fun z => (s1.fresh ha).2 (by rw [← List.mem_singleton.mp z]; exact hb)⟩
  refine q (.ref a) ⟨ρ2.r ++ [a], ρ1.h⟩ H2 ⟨?_, rfl, fun b u eb n => ⟨(x.keep b u eb n).1, ?_, n.2⟩, x.same⟩ ?_ ⟨a, ?_, rfl⟩
  · obtain ⟨ν, p⟩ := x.pre
    exact ⟨ν ++ [a], by show ρ2.r ++ [a] = _; rw [show ρ2.r = ρ1.r ++ ν from p, List.append_assoc]⟩
  · show b ∉ ρ2.r ++ [a]
    rw [List.mem_append, not_or]
    exact ⟨(x.keep b u eb n).2.1, fun z => ne_of_none eb ha (List.mem_singleton.mp z)⟩
  · rw [← List.append_assoc]
    exact se
  · show (ρ2.r ++ [a])[_]? = _
    rw [← s.len, List.getElem?_append_right (Nat.le_refl _), Nat.sub_self]
    rfl
/-! ### a dict comprehension -/
def dcR (t : Tg) (fk fv : EF) (env : Env) : List D → M (List (D × D))
  | [] => M.pure []
  | d :: ds => match t.put d env with
    | none => M.no
    | some env1 => M.bind (M.calm (fk env1)) fun k => M.bind (M.calm (fv env1)) fun x => M.bind (dcR t fk fv env ds) fun r => M.pure ((k, x) :: r)
def okKeys (l : List (D × D)) : Bool := decide ((l.map fun p => keyOf p.1).Nodup) && l.all (fun p => (keyOf p.1).isSome) && decide (l.length < sizeLine)
def kDic (r : List (D × D)) : M D := if okKeys r = true then mNew (.dic (r.map (·.1)) (r.map (·.2))) else M.no
def cDc (t : Tg) (own : List Nat) (it : Env → M (List D)) (fk fv : EF) : EF := fun env => M.bind (few it env) fun ds => M.bind (dcR t fk fv (wipeE env own) ds) kDic
section
variable {X : Cx} {C : Cfg} {W : WX} {σ : L2.St} {ρ : Zn} {H : Hp} {ro w : List D}
theorem kV_rep {k : D} {κ : Key} {v : V} (h : keyOf k = some κ) (r : Rep C ρ H k v) : v = kV κ := by
  cases k with
  | int i => cases h; exact r
  | str i => cases h; exact r
  | _ => cases h
theorem valV_not {kvs : List (Key × V)} {k : Key} (h : k ∉ kvs.map (·.1)) : valV kvs k = none := by
  have e := valV_any (kvs := kvs) (k := k)
  cases q : valV kvs k with
  | none => rfl
  | some v =>
    rw [q] at e
    obtain ⟨p, hp, e2⟩ := List.any_eq_true.mp e
    exact absurd (List.mem_map_of_mem (f := (·.1)) hp) (by rw [of_decide_eq_true e2]; exact h)
theorem dcR_never {t : Tg} {fk fv : EF} {env : Env} : ∀ (ds : List D) {w : List D}, (∃ r w', dcR t fk fv env ds ro w = .ok r w') ∨ dcR t fk fv env ds ro w = .no
  | [], w => .inl ⟨[], w, rfl⟩
  | d :: ds, w => by
    unfold dcR
    cases t.put d env with
    | none => exact .inr rfl
    | some env1 =>
      dsimp only
      unfold M.bind
      rcases calm_never (m := fk env1) (ro := ro) (w := w) rfl with ⟨b, w1, e⟩ | e
      · rw [e]
        dsimp only
        rcases calm_never (m := fv env1) (ro := ro) (w := w1) rfl with ⟨x, w2, e2⟩ | e2
        · rw [e2]
          dsimp only
          rcases dcR_never (t := t) (fk := fk) (fv := fv) (env := env) ds (w := w2) with ⟨r, w3, e3⟩ | e3
          · rw [e3]
            exact .inl ⟨_, _, rfl⟩
          · rw [e3]
            exact .inr rfl
        · rw [e2]
          exact .inr rfl
      · rw [e]
        exact .inr rfl
/-- the turns -/
theorem dc_ok {t : Tg} {own : List Nat} {fk fv : EF} {env : Env} {ds : List D} {J : It} {Qd : Hp → Prop} {w1 : List D} {r : List (D × D)} {wf : List D} {ρ1 : Zn} {H1 : Hp} {D0 : Addr}
    (ht : ∀ i ∈ t.slots, i ∈ own) (walk : Walks C ρ1 H1 ds J) (s1 : RepS C ρ1 H1 (ro ++ w1)) (e1 : RepE C ρ1 H1 env σ) (hD : H1 D0 = none)
    (hr : dcR t fk fv (wipeE env own) ds ro w1 = .ok r wf) (hkeys : okKeys r = true)
    (k : ∀ (ρ2 : Zn) H2 kvs, Ext ρ1 ⟨ρ2.r, ρ1.h⟩ H1 H2 → ρ2.h = D0 :: ρ1.h → RepS C ρ2 H2 (ro ++ wf) → H2 D0 = some (.dK kvs) → (r.map (·.1)).map keyOf = kvs.map (fun p => some p.1) → Reps C ρ2 H2 (r.map (·.2)) (kvs.map (·.2)) → Qd H2) :
    ∃ W : Nat → Nat → Hp → Prop, (∃ m, W 0 m (upd H1 D0 (.dK []))) ∧ ∀ i m H, W i m H →
      (J.stop i H ∧ Qd H) ∨ (J.go i H ∧ ∃ Nx : Hp → Prop, (∀ H', Nx H' → ∃ m', m' < m ∧ W (i + 1) m' H') ∧ ∀ x H', J.yld i H x H' → t.g C.K x (wipe σ own) H' fun σ2 H2 => wipe σ2 own = wipe σ own ∧ tT C W0 cYes σ2 H2 fun b H3 =>
        if b = true then tE C W0 fk σ2 H3 fun y H4 => tE C W0 fv σ2 H4 fun z H5 => ∃ kvs κ, y = kV κ ∧ H5 D0 = some (.dK kvs) ∧ kvs.length < sizeLine ∧ Nx (upd H5 D0 (.dK (putK kvs κ z))) else Nx H3) := by
  unfold okKeys at hkeys
  simp only [Bool.and_eq_true, decide_eq_true_eq, List.all_eq_true] at hkeys
  obtain ⟨⟨hnd, hsome⟩, hlen⟩ := hkeys
  let I : Nat → Hp → Prop := fun i H => ∃ ρ w acc kvs r2, Ext ρ1 ⟨ρ.r, ρ1.h⟩ H1 H ∧ ρ.h = D0 :: ρ1.h ∧ RepS C ρ H (ro ++ w) ∧ RepE C ρ H (wipeE env own) (wipe σ own) ∧ H D0 = some (.dK kvs) ∧ (acc.map fun p : D × D => keyOf p.1) = kvs.map (fun p => some p.1) ∧ Reps C ρ H (acc.map (·.2)) (kvs.map (·.2)) ∧
    dcR t fk fv (wipeE env own) (ds.drop i) ro w = .ok r2 wf ∧ r = acc ++ r2
  have h0 : I 0 (upd H1 D0 (.dK [])) := by
    obtain ⟨x, s⟩ := hide_new (o := .dK []) s1 hD
    exact ⟨ρ1.hide D0, w1, [], [], r, ⟨⟨[], by simp⟩, rfl, fun a o e n => ⟨by rw [upd_ne (ne_of_none e hD)]; exact e, n⟩, fun a ha => upd_ne fun e => (s1.fresh hD).2 (e ▸ ha)⟩, rfl, s, wipeE_ok (e1.extR x) own, upd_same, rfl, rfl, hr, rfl⟩
  refine ⟨fun i m H => i + m = ds.length ∧ I i H, ⟨ds.length, by omega, h0⟩, fun i m H ⟨hm, ρ, w, acc, kvs, r2, xo, hh, s, e, hDv, hks, hacc, hcomp, hr2⟩ => ?_⟩
  have wk := walk i ρ H _ (ext_outR xo hh hD) s
  have hDm : D0 ∈ ρ.h := by rw [hh]; exact List.mem_cons_self
  cases hd : ds[i]? with
  | none =>
    have hl := List.getElem?_eq_none_iff.mp hd
    rw [List.drop_eq_nil_of_le hl] at hcomp
    cases (show (Out.ok [] w : Out (List (D × D))) = .ok r2 wf from hcomp)
    rw [List.append_nil] at hr2
    subst hr2
    exact .inl ⟨wk.2 hd, k ρ H kvs xo hh s hDv (by rw [List.map_map]; exact hks) hacc⟩
  | some d =>
    have hl := (List.getElem?_eq_some_iff.mp hd).1
    have hdrop : ds.drop i = d :: ds.drop (i + 1) := by
      rw [List.drop_eq_getElem_cons hl, (List.getElem?_eq_some_iff.mp hd).2]
    rw [hdrop] at hcomp
    obtain ⟨go, yl⟩ := wk.1 d hd
    refine .inr ⟨go, fun H' => I (i + 1) H', fun H' h => ⟨m - 1, by omega, by omega, h⟩, fun y H' hy => ?_⟩
    obtain ⟨x3, s3, r3⟩ := yl y H' hy
    unfold dcR at hcomp
    cases hput : t.put d (wipeE env own) with
    | none =>
      simp only [hput] at hcomp
      cases hcomp
    | some env1 =>
      simp only [hput] at hcomp
      obtain ⟨kd, w4, hb, hcomp⟩ := bind_ok hcomp
      replace hb := calm_ok hb
      obtain ⟨x, w5, hx, hcomp⟩ := bind_ok hcomp
      replace hx := calm_ok hx
      obtain ⟨r5, w6, hr5, hcomp⟩ := bind_ok hcomp
      cases (show (Out.ok ((kd, x) :: r5) w6 : Out (List (D × D))) = .ok r2 wf from hcomp)
      refine Tg.ok (e.ext x3) r3 hput fun us e3 => ⟨wipe_set ht, ρ, env1, ro, w, s3, e3, ?_⟩
      intro b' ρ3 H3 x3' s3' rb
      cases (show true = b' from rb)
      rw [if_pos rfl]
      have e3' := e3.ext x3'
      have xo3 := ext_out (ext_out xo hh hD x3) hh hD x3'
      have hh3 : ρ3.h = D0 :: ρ1.h := x3'.hid.trans hh
      have hDm3 : D0 ∈ ρ3.h := by rw [hh3]; exact List.mem_cons_self
      have hDv3 : H3 D0 = some (.dK kvs) := by rw [x3'.same D0 hDm, x3.same D0 hDm]; exact hDv
      refine ⟨ρ3, env1, ro, w, s3', e3', ?_⟩
      rw [hb]
      intro kv ρ4 H4 x4 s4 rk
      have e4 := e3'.ext x4
      have xo4 := ext_out xo3 hh3 hD x4
      have hh4 : ρ4.h = D0 :: ρ1.h := x4.hid.trans hh3
      have hDm4 : D0 ∈ ρ4.h := by rw [hh4]; exact List.mem_cons_self
      have hDv4 : H4 D0 = some (.dK kvs) := by rw [x4.same D0 hDm3]; exact hDv3
      refine ⟨ρ4, env1, ro, w4, s4, e4, ?_⟩
      rw [hx]
      intro z ρ5 H5 x5 s5 rz
      have hh5 : ρ5.h = D0 :: ρ1.h := x5.hid.trans hh4
      have hDm5 : D0 ∈ ρ5.h := by rw [hh5]; exact List.mem_cons_self
      have hDv5 : H5 D0 = some (.dK kvs) := by rw [x5.same D0 hDm4]; exact hDv4
      have hacc5 := Reps.ext x5 _ (Reps.ext x4 _ (Reps.ext x3' _ (Reps.ext x3 _ hacc)))
      have hkd : (kd, x) ∈ r := by rw [hr2]; simp
      obtain ⟨κ, eκ⟩ := Option.isSome_iff_exists.mp (hsome _ hkd)
      have hlk : kvs.length = acc.length := by
        have := congrArg List.length hks
        simpa using this.symm
      have hrl : r.length = acc.length + (r5.length + 1) := by rw [hr2]; simp
      have hnk : κ ∉ kvs.map (·.1) := fun hm => by
        rw [hr2, List.map_append, List.nodup_append] at hnd
        have h1 : some κ ∈ acc.map fun p : D × D => keyOf p.1 := by
          rw [hks]
          obtain ⟨p, hp, e⟩ := List.mem_map.mp hm
          exact List.mem_map.mpr ⟨p, hp, by rw [e]⟩
        exact hnd.2.2 _ h1 (some κ) (by simp [eκ]) rfl
      refine ⟨kvs, κ, kV_rep eκ rk, hDv5, by omega, ?_⟩
      rw [putK_new z (valV_not hnk)]
      obtain ⟨x6, s6⟩ := hide_put (o := .dK (kvs ++ [(κ, z)])) s5 hDm5
      refine ⟨ρ5, w5, acc ++ [(kd, x)], kvs ++ [(κ, z)], r5, ext_upd (ext_out xo4 hh4 hD x5) hD (s1.fresh hD).2, hh5, s6, ((((e.ext x3).ext x3').ext x4).ext x5).extR x6, upd_same, ?_, ?_, hr5, by rw [hr2]; simp⟩
      · rw [List.map_append, List.map_append, hks]
        simp [eκ]
      · rw [List.map_append, List.map_append]
        exact (Reps.extR x6 _ hacc5).append (Reps.one (Rep.extR x6 x rz))
end
section
variable {X : Cx} {W : WX} {pos p pos' : Pos} {kx vx tg iter : Expr} {ifs : List Expr} {scope : Scope} {own : List (Str × Nat)} {it : Env → M (List D)} {fk fv : EF} {t : Tg} {x c f : Str} {fs : List Str} {σ : L2.St} {H : Hp} {ρ : Zn}
theorem tE_dc (ht : ∀ i ∈ t.slots, i ∈ own.map (·.2)) {Q : VK} (q : tE (cfg X) W (cDc t (own.map (·.2)) it fk fv) σ H Q) :
    tDc (tI (cfg X) W it) (t.g X.K) (tT (cfg X) W0 cYes) (tE (cfg X) W0 fk) (tE (cfg X) W0 fv) (own.map (·.2)) σ H Q := by
  obtain ⟨ρ, env, ro, w, hS, hE, q⟩ := q
  unfold cDc few at q
  unfold M.bind at q
  refine ⟨ρ, env, ro, w, hS, hE, ?_⟩
  cases ei : it env ro w with
  | no =>
    simp only [M.bind, ei] at q
    exact q
  | exn c ns xs w1 =>
    simp only [M.bind, ei] at q
    exact q
  | ok ds w1 =>
    simp only [M.bind, ei] at q
    by_cases hn : ds.length ≤ sizeLine
    · simp only [if_pos hn] at q
      intro J ρ1 H1 x1 s1 walk D0 hD
      rcases dcR_never (t := t) (fk := fk) (fv := fv) (env := wipeE env (own.map (·.2))) (ro := ro) ds (w := w1) with ⟨r, wf, hr⟩ | hr
      · simp only [hr] at q
        unfold kDic at q
        by_cases hk : okKeys r = true
        · rw [if_pos hk] at q
          refine dc_ok (C := cfg X) ht walk s1 (hE.ext x1) hD hr hk fun ρ2 H2 kvs x2 hh s2 e2 k2 r2 => ?_
          exact out_mut (d := .dic (r.map (·.1)) (r.map (·.2))) s1 x2 hh s2 hD (fun ρ' y => ⟨kvs, e2, k2, Reps.extR y _ r2⟩) (AfterR.ext x1 q)
        · rw [if_neg hk] at q
          exact (show False from q).elim
      · simp only [hr] at q
        exact (show False from q).elim
    · simp only [if_neg hn] at q
      exact (show False from q).elim
/-! ### the keys of an attribute -/
def cKeysA (c : Str) (i : Nat) (f : Str) : Env → M (List D) := fun env _ w => match env[i]? with
  | some (some (.ins c' ns xs)) => if c' = c then (match fieldV ns xs f with
    | some (.dic ks _) => .ok ks w
    | _ => .no) else .no
  | _ => .no
theorem keysA_there {i : Nat} {env : Env} {ro w : List D} {ds w' : List D} (h : cKeysA c i f env ro w = .ok ds w') : ∃ ns xs ys, env[i]? = some (some (.ins c ns xs)) ∧ fieldV ns xs f = some (.dic ds ys) ∧ w' = w := by
  unfold cKeysA at h
  split at h
  · rename_i c' ns xs e
    split at h
    · rename_i ec
      subst ec
      split at h
      · rename_i ks ys e2
        cases h
        exact ⟨ns, xs, ys, e, e2, rfl⟩
      · cases h
    · cases h
  · cases h
def FrzA (X : Cx) (c : Str) (i : Nat) (f : Str) (σ : L2.St) (H : Hp) : Prop := ∃ a0 A dx fl a o kvs, σ[i]? = some (some (.ref a0)) ∧ H a0 = some (.ins A dx fl) ∧ fl.lookup f = some (.ref a) ∧ H a = some (.frz o (.dK kvs))
theorem pi_keysA (T : ClX X.K X.mg c fs) (i : Nat) (hf : f ∈ fs) (hN : X.N[i]? = some x) (hv : Vis X.env.scope x) (hd : (x == ("__debug__" : Str)) = false) (hcd : (x == ("__classdict__" : Str)) = false)
    (hb : attributeBase (.Name x p) f X.env (eval (.Name x p) X.env) = eval (.Name x p) X.env) : PI X tg (.Attribute (.Name x p) f pos) (fun σ H R => FrzA X c i f σ H ∧ tI (cfg X) W (cKeysA c i f) σ H R) :=
  pi_imp (pi_keys (pe_fld (pe_var hN hv hd hcd) hb)) fun σ H R ⟨⟨a0, A, dx, fl, a, o, kvs, e1, e2, e3, e4⟩, ρ, env, ro, w, hS, hE, q⟩ => by
    have q0 : AfterR (cfg X) (fun ρ H ds J => Walks (cfg X) ρ H ds J) W σ ρ H ro (cKeysA c i f env ro w) R := q
    cases ek : cKeysA c i f env ro w with
    | no => rw [ek] at q0; exact (show False from q0).elim
    | exn _ _ _ _ =>
      exfalso
      unfold cKeysA at ek
      split at ek
      · split at ek
        · split at ek <;> cases ek
        · cases ek
      · cases ek
    | ok ds w' =>
      rw [ek] at q0
      obtain ⟨ns, xs, ys, g1, g2, rfl⟩ := keysA_there ek
      obtain ⟨v, h1, a0', A', dx', fl', ev, hm, ho, hins, en, hr⟩ := hE.at' i _ g1
      rw [e1] at h1
      cases h1
      cases ev
      rw [e2] at hins
      cases hins
      subst en
      obtain ⟨v', l', rv⟩ := fieldV_rep g2 hr
      rw [e3] at l'
      cases l'
      obtain ⟨a', kvs', ev', st, k1, k2⟩ := rv
      cases ev'
      obtain ⟨A2, hm2, cl, na⟩ := T.ex
      cases hm.symm.trans hm2
      have ek2 : kvs' = kvs := by
        rcases st.2 with h | ⟨o', h⟩
        · rw [e4] at h
          cases h
        · rw [e4] at h
          cases h
          rfl
      subst ek2
      exact ⟨.ref a0, e1, a0, A, dx, fl, .ref a, rfl, e2, cl, na f hf, e3, a, o, rfl, .inl ⟨kvs', e4, q0 _ ρ H .refl hS (walks_keys st.1 e4 k1)⟩⟩
def cDcA (t : Tg) (own : List Nat) (c : Str) (i : Nat) (f : Str) (fk fv : EF) : EF := fun env => M.calm (cDc t own (cKeysA c i f) fk fv env)
/-- {k: v for t in x.f}, x.f a dict that stands still -/
theorem pf_dcA (i : Nat) (T : ClX X.K X.mg c fs) (ht : ∀ i ∈ t.slots, i ∈ own.map (·.2)) (hc : X.calm = true) (hN : X.N.Nodup) (ok : BlkOk X.N X.env.scope scope own)
    (hg : ∀ (s : Shared) (H : Hp) (C : Addr) (cl : List (Str × Addr)) (fp : List Addr), PG (X.blk s H scope (compEnvC scope cl C X.env) fp) tg (t.g X.K))
    (hk : ∀ (s : Shared) (H : Hp) (C : Addr) (cl : List (Str × Addr)) (fp : List Addr), PE (X.blk s H scope (compEnvC scope cl C X.env) fp) kx (tE (cfg X) W0 fk))
    (he : ∀ (s : Shared) (H : Hp) (C : Addr) (cl : List (Str × Addr)) (fp : List Addr), PE (X.blk s H scope (compEnvC scope cl C X.env) fp) vx (tE (cfg X) W0 fv))
    (hf : f ∈ fs := by decide) (hi : X.N[i]? = some x := by rfl) (hv : Vis X.env.scope x := by first | exact Or.inl rfl | exact Or.inr (Or.inl rfl) | exact Or.inr (Or.inr rfl)) (hd : (x == ("__debug__" : Str)) = false := by decide) (hcd : (x == ("__classdict__" : Str)) = false := by decide)
    (hb : attributeBase (.Name x p) f X.env (eval (.Name x p) X.env) = eval (.Name x p) X.env := by rfl) (hs : ∀ z, foldedSetIterable (.Attribute (.Name x p) f pos') X.env z = pure z := by intro _; rfl) :
    PE X (.DictComp kx vx [⟨tg, .Attribute (.Name x p) f pos', [], 0⟩] scope pos) (tE (cfg X) W (cDcA t (own.map (·.2)) c i f fk fv)) := by
  have base : PE X (.DictComp kx vx [⟨tg, .Attribute (.Name x p) f pos', [], 0⟩] scope pos) (fun σ H Q => FrzA X c i f σ H ∧ tE (cfg X) W (cDc t (own.map (·.2)) (cKeysA c i f) fk fv) σ H Q) :=
    pe_imp (pe_dc hc hN (pi_keysA (W := W) T i hf hi hv hd hcd hb) ok hg (fun _ _ _ _ _ => fts_nil) hk he hs) fun σ H Q ⟨p, q⟩ => ⟨p, tE_dc ht q⟩
  refine ⟨fun pins s σ H Q I q => ?_⟩
  obtain ⟨ρ, env, ro, w, hS, hE, q⟩ := q
  replace q : AfterR (cfg X) (Rep (cfg X)) W σ ρ H ro (M.calm (cDc t (own.map (·.2)) (cKeysA c i f) fk fv env) ro w) Q := q
  rcases calm_never (m := cDc t (own.map (·.2)) (cKeysA c i f) fk fv env) (ro := ro) (w := w) rfl with ⟨d, w', e⟩ | e
  · rw [e] at q
    have ec := calm_ok e
    obtain ⟨ds, w1, h1, h2⟩ := bind_ok ec
    obtain ⟨ds', w2, h3, h4⟩ := bind_ok h1
    obtain ⟨ns, xs, ys, ei, e2, _⟩ := keysA_there h3
    obtain ⟨v, g1, a0, A, dx, fl, ev, hm, ho, hins, en, hr⟩ := hE.at' i _ ei
    subst ev en
    obtain ⟨v', l', a, kvs, ev', st, k1, k2⟩ := fieldV_rep e2 hr
    subst ev'
    rcases st.2 with h | ⟨o, h⟩
    · have hne : a0 ≠ a := fun z => by
        rw [z, h] at hins
        cases hins
      refine (pe_lock base).run pins s σ H Q I ⟨a, .dK kvs, h, trivial, fun od => ⟨⟨a0, A, dx, fl, a, od, kvs, g1, by rw [upd_ne hne]; exact hins, l', upd_same⟩, ρ, env, ro, w, reps_lock h st.1 hS, hE.rde (rde_lock h), ?_⟩⟩
      rw [ec]
      intro v ρ' H' x s' r
      obtain ⟨l1, l2, l3⟩ := ext_locked h st.1 x
      exact ⟨l1, q v ρ' _ l3 (reps_unlock l1 l2 s') (Rep.rde (rde_unlock l1) _ r)⟩
    · exact base.run pins s σ H Q I ⟨⟨a0, A, dx, fl, a, o, kvs, g1, hins, l', h⟩, ρ, env, ro, w, hS, hE, by rw [ec]; exact q⟩
  · rw [e] at q
    exact (show False from q).elim
end
/-! ### list(range(n)) -/
def cLRg (fa : EF) : EF := fun env => M.bind (fa env) fun d => match d with
  | .int j => if 0 ≤ j ∧ j.natAbs ≤ 1000000 then M.pure (.lst (rngD 0 j.toNat)) else M.no
  | _ => M.no
section
variable {X : Cx} {W : WX} {pos p p2 pos2 : Pos} {a : Expr} {fa : EF}
theorem reps_rng {C : Cfg} {ρ : Zn} {H : Hp} {j : Int} : Reps C ρ H (rngD 0 j.toNat) (rgV 0 j) := by
  have e : (j - 0).toNat = j.toNat := by omega
  unfold rgV rngD
  rw [e]
  exact reps_maps fun _ _ => rfl
theorem pf_lrg (hc : X.calm = true) (hg : Gl X "list") (hm : X.mg "list" = none) (hg2 : Gl X "range") (hm2 : X.mg "range" = none) (ha : PE X a (tE (cfg X) W fa))
    (na : starEach [a] X.env = (false, eval a X.env) :: starEach [] X.env := by rfl) (na2 : starEach [Expr.Call (.Name "range" p2) [a] [] pos2] X.env = (false, eval (Expr.Call (.Name "range" p2) [a] [] pos2) X.env) :: starEach [] X.env := by rfl) :
    PE X (.Call (.Name "list" p) [.Call (.Name "range" p2) [a] [] pos2] [] pos) (tE (cfg X) W (cLRg fa)) := by
  refine pe_imp (pe_listRg hc hg hm (prg_1 hg2 hm2 ha na) na2) fun σ H Q ⟨ρ, env, ro, w, hS, hE, q⟩ => ?_
  refine tR_seq hS hE q fun d w1 v ρ1 H1 x1 s1 r1 q1 => ?_
  cases d with
  | int j =>
    by_cases c : 0 ≤ j ∧ j.natAbs ≤ 1000000
    · simp only [if_pos c] at q1
      exact ⟨j, r1, RgOk.of_le (by omega) (by omega) (by omega) (by omega), ok_lst s1 reps_rng q1⟩
    · simp only [if_neg c] at q1
      exact (show False from q1).elim
  | _ => exact (show False from q1).elim
end
section
variable {fa fo : EF} {env : Env} {ro w : List D} {t : Tg} {own : List Nat} {fk fv : EF} {c f : Str} {i : Nat}
theorem x_lrg : cLRg fa env ro w = (fa env ro w).an fun d w1 => (match d with
  | .int j => if 0 ≤ j ∧ j.natAbs ≤ 1000000 then M.pure (.lst (rngD 0 j.toNat)) else M.no
  | _ => M.no : M D) ro w1 := by
  show M.bind (fa env) _ ro w = _
  exact x_bind
theorem lrg_at {j : Int} {w1 : List D} (h : fa env ro w = .ok (.int j) w1) (hj : 0 ≤ j ∧ j.natAbs ≤ 1000000) : cLRg fa env ro w = .ok (.lst (rngD 0 j.toNat)) w1 := by
  rw [x_lrg, h, an_ok]
  show (if 0 ≤ j ∧ j.natAbs ≤ 1000000 then M.pure (.lst (rngD 0 j.toNat)) else M.no : M D) ro w1 = _
  rw [if_pos hj]
  rfl
end
end Fx
/-! What an own class's __init__ does; a walk over the keys of a dict within a tuple. -/
namespace Fx
open PySem PySem.Spec L2
structure InitOk (P : Program) (w : World) (K : PySem.W.Frag) (mg : Str → Option Value) (base : Heap) (n : Nat) (c : Str) (g : List D → M D) (np : Nat) : Prop where
  ex : ∃ (A f : Addr) (fd : FuncData) (ps : List Str), mg c = some (.ref A) ∧ Mk K A f ∧ Binds K fd ps [] ∧ FnOk P w K mg base (L2.CX P w) n f fd ps (spF ⟨K, mg, w⟩ g (np + 1))
section
variable {X : Cx} {W : WX} {pos p p2 pos' : Pos} {tg iter : Expr} {t : Tg} {x c f : Str} {σ : L2.St} {H : Hp} {ρ : Zn}
def cKeysX (i k : Nat) : Env → M (List D) := fun env _ w => match env[i]? with
  | some (some (.tup ds)) => (match ds[k]? with
    | some (.dic ks _) => .ok ks w
    | _ => .no)
  | _ => .no
theorem keysX_there {i k : Nat} {env : Env} {ro w : List D} {ds w' : List D} (h : cKeysX i k env ro w = .ok ds w') : ∃ xs ys, env[i]? = some (some (.tup xs)) ∧ xs[k]? = some (.dic ds ys) ∧ w' = w := by
  unfold cKeysX at h
  split at h
  · rename_i xs e
    split at h
    · rename_i ks ys e2
      cases h
      exact ⟨xs, ys, e, e2, rfl⟩
    · cases h
  · cases h
def FrzX (X : Cx) (i k : Nat) (σ : L2.St) (H : Hp) : Prop := ∃ a0 vs a o kvs, σ[i]? = some (some (.ref a0)) ∧ SqT X.K H a0 vs ∧ vs[k]? = some (.ref a) ∧ H a = some (.frz o (.dK kvs))
theorem atI_some {α : Type} {l : List α} {k : Nat} {v : α} (h : l[k]? = some v) : L2.atI l (k : Int) = some v := by
  have hl := (List.getElem?_eq_some_iff.mp h).1
  unfold L2.atI L2.ixN
  simp [hl]
  exact (List.getElem?_eq_some_iff.mp h).2
theorem pi_keysX (i : Nat) (k j : Nat) (hN : X.N[i]? = some x) (hv : Vis X.env.scope x) (hd : (x == ("__debug__" : Str)) = false) (hcd : (x == ("__classdict__" : Str)) = false)
    (hs : PlainIx (Expr.Constant (.int k) j p2)) : PI X tg (.Subscript (.Name x p) (Expr.Constant (.int k) j p2) pos) (fun σ H R => FrzX X i k σ H ∧ tI (cfg X) W (cKeysX i k) σ H R) := by
  refine ⟨fun pins s σ H R I ⟨⟨a0, vs, a, o, kvs, e1, e2, e3, e4⟩, ρ, env, ro, w, hS, hE, q⟩ => (pi_keys (pe_ix ix_seq (pe_var hN hv hd hcd) pe_int hs)).run pins s σ H R I ?_⟩
  have q0 : AfterR (cfg X) (fun ρ H ds J => Walks (cfg X) ρ H ds J) W σ ρ H ro (cKeysX i k env ro w) R := q
  cases ek : cKeysX i k env ro w with
  | no => rw [ek] at q0; exact (show False from q0).elim
  | exn _ _ _ _ =>
    exfalso
    unfold cKeysX at ek
    split at ek
    · split at ek <;> cases ek
    · cases ek
  | ok ds w' =>
    rw [ek] at q0
    obtain ⟨xs, ys, g1, g2, rfl⟩ := keysX_there ek
    obtain ⟨v, h1, hr⟩ := hE.at' i _ g1
    rw [e1] at h1
    cases h1
    obtain ⟨a0', vs', ev, st, rr⟩ := hr
    cases ev
    have ej := I.tuple_inj e2 (Still.sqT st)
    subst ej
    obtain ⟨u, u1, a', kvs', ev', st', k1, k2⟩ := rr.get g2
    rw [e3] at u1
    cases u1
    cases ev'
    have ek2 : kvs' = kvs := by
      rcases st'.2 with h | ⟨o', h⟩
      · rw [e4] at h
        cases h
      · rw [e4] at h
        cases h
        rfl
    subst ek2
    exact ⟨.ref a0, e1, .inr (.inl ⟨a0, vs, (k : Int), .ref a, rfl, rfl, e2, atI_some e3, a, o, rfl, .inl ⟨kvs', e4, q0 _ ρ H .refl hS (walks_keys st'.1 e4 k1)⟩⟩)⟩
/-- for t in x[k]: x a tuple, x[k] a dict that stands still -/
def sForX (t : Tg) (i k : Nat) (body : SF) : SF := fun env ro w => (sFor t (cKeysX i k) body env ro w).calm
theorem f_forX {body : SF} {sts : List Stmt} {j : Nat} (i k : Nat) (hp : PassesOwn (model X.prog X.w) X.A X.env X.xe) (hc : X.calm = true) (hg : PG X tg (t.g X.K)) (hb : PSs X sts (tS (cfg X) W body))
    (hi : X.N[i]? = some x := by rfl) (hv : Vis X.env.scope x := by first | exact Or.inl rfl | exact Or.inr (Or.inl rfl) | exact Or.inr (Or.inr rfl)) (hd : (x == ("__debug__" : Str)) = false := by decide) (hcd : (x == ("__classdict__" : Str)) = false := by decide) (hx : PlainIx (Expr.Constant (.int k) j p2) := by exact fun _ _ => rfl)
    (hs : ∀ z, foldedSetIterable (.Subscript (.Name x p) (Expr.Constant (.int k) j p2) pos') X.env z = pure z := by intro _; rfl) :
    PS X (.For tg (.Subscript (.Name x p) (Expr.Constant (.int k) j p2) pos') sts [] pos) (tS (cfg X) W (sForX t i k body)) := by
  have base : PS X (.For tg (.Subscript (.Name x p) (Expr.Constant (.int k) j p2) pos') sts [] pos) (fun D σ H => FrzX X i k σ H ∧ tS (cfg X) W (sFor t (cKeysX i k) body) D σ H) :=
    ps_imp (ps_for hp hc (pi_keysX (W := W) i k j hi hv hd hcd hx) hg hb (hs := hs)) fun D σ H ⟨p, q⟩ => ⟨p, tS_for q⟩
  refine ⟨fun pins s σ H D I q => ?_⟩
  obtain ⟨ρ, env, ro, w, hS, hE, q⟩ := q
  replace q : AfterS (cfg X) W ρ H ro (sFor t (cKeysX i k) body env ro w).calm D := q
  have ek : ∃ ds w', cKeysX i k env ro w = .ok ds w' := by
    unfold sFor sLift at q
    cases e : cKeysX i k env ro w with
    | ok ds w' => exact ⟨ds, w', rfl⟩
    | exn _ _ _ _ => rw [e] at q; exact (show False from q).elim
    | no => rw [e] at q; exact (show False from q).elim
  obtain ⟨ds, w', h3⟩ := ek
  obtain ⟨xs, ys, ei, e2, _⟩ := keysX_there h3
  obtain ⟨v, g1, a0, vs, ev, st0, rr⟩ := hE.at' i _ ei
  subst ev
  obtain ⟨u, u1, a, kvs, ev, st, k1, k2⟩ := rr.get e2
  subst ev
  have sq : ∀ {od : Obj}, H a = some (.dK kvs) → SqT X.K (upd H a (.frz od (.dK kvs))) a0 vs := fun {od} h => by
    rcases st0 with z | z
    · exact .inl ((rde_lock h).rd a0 _ (fun _ _ e => by cases e) z.2)
    · exact .inr z
  cases ec : sFor t (cKeysX i k) body env ro w with
  | no => rw [ec] at q; exact (show False from q).elim
  | exn _ _ _ _ _ => rw [ec] at q; exact (show False from q).elim
  | go fl env2 w2 =>
    rw [ec] at q
    rcases st.2 with h | ⟨o, h⟩
    · refine (ps_lock base).run pins s σ H D I ⟨a, .dK kvs, h, trivial, fun od => ⟨⟨a0, vs, a, od, kvs, g1, sq h, u1, upd_same⟩, ρ, env, ro, w, reps_lock h st.1 hS, hE.rde (rde_lock h), ?_⟩⟩
      rw [ec]
      cases fl with
      | rt d =>
        intro v ρ' H' x s' r
        obtain ⟨l1, l2, l3⟩ := ext_locked h st.1 x
        exact ⟨l1, q v ρ' _ l3 (reps_unlock l1 l2 s') (Rep.rde (rde_unlock l1) _ r)⟩
      | nx =>
        intro v ρ' H' x s' r
        obtain ⟨l1, l2, l3⟩ := ext_locked h st.1 x
        exact ⟨l1, q v ρ' _ l3 (reps_unlock l1 l2 s') (r.rde (rde_unlock l1))⟩
      | bk =>
        intro v ρ' H' x s' r
        obtain ⟨l1, l2, l3⟩ := ext_locked h st.1 x
        exact ⟨l1, q v ρ' _ l3 (reps_unlock l1 l2 s') (r.rde (rde_unlock l1))⟩
      | ct =>
        intro v ρ' H' x s' r
        obtain ⟨l1, l2, l3⟩ := ext_locked h st.1 x
        exact ⟨l1, q v ρ' _ l3 (reps_unlock l1 l2 s') (r.rde (rde_unlock l1))⟩
    · exact base.run pins s σ H D I ⟨⟨a0, vs, a, o, kvs, g1, Still.sqT st0, u1, h⟩, ρ, env, ro, w, hS, hE, by rw [ec]; exact q⟩
theorem x_keysX {i k : Nat} {env : Env} {ro w xs ks ys : List D} (h : env[i]? = some (some (.tup xs))) (h2 : xs[k]? = some (.dic ks ys)) : cKeysX i k env ro w = .ok ks w := by
  unfold cKeysX
  simp [h, h2]
theorem x_forX {i k : Nat} {body : SF} {env : Env} {ro w : List D} : sForX t i k body env ro w = (sFor t (cKeysX i k) body env ro w).calm := rfl
end
end Fx
/-! Models: what the program's own functions do. -/
namespace Fx
open PySem PySem.Spec L2
/-! ### plain -/
/-- worlds, what sees what, where each name is true -/
structure Mo where
  n : Nat
  s : Nat → Nat → Bool
  v : List (Str × List Nat)
namespace Mo
def at' (M : Mo) (x : Str) : List Nat := (M.v.lookup x).getD []
def sem (M : Mo) (F : Bool) : Fm → Nat → Bool
  | .fal, _ => false
  | .var x, w => (M.at' x).contains w
  | .and a b, w => M.sem F a w && M.sem F b w
  | .or a b, w => M.sem F a w || M.sem F b w
  | .imp a b, w => if F then (List.range M.n).all fun u => !(M.s w u && (M.sem F a u && !M.sem F b u)) else !(M.sem F a w && !M.sem F b w)
  | .box a, w => (List.range M.n).all fun u => !(M.s w u && !M.sem F a u)
structure Ok (M : Mo) : Prop where
  pos : 0 < M.n
  few : M.n < 8
  names : ∀ p ∈ M.v, PyData.strOk p.1 = true
  nd : (M.v.map (·.1)).Nodup
  asc : ∀ p ∈ M.v, p.2.Pairwise (· < ·) ∧ ∀ w ∈ p.2, w < M.n
  short : M.v.length < 100
end Mo
abbrev nD (i : Nat) : D := .int i
abbrev nsD (l : List Nat) : D := .lst (l.map nD)
def vD (v : List (Str × List Nat)) : D := .dic (v.map fun p => .str p.1) (v.map fun p => nsD p.2)
namespace Mo
def row (M : Mo) (i : Nat) : List Nat := (List.range M.n).filter (M.s i)
def pairs (M : Mo) : List (Nat × Nat) := (List.range M.n).flatMap fun i => (M.row i).map fun j => (i, j)
end Mo
def prD (p : Nat × Nat) : D := .tup [.int p.1, .int p.2]
namespace Mo
def frD (M : Mo) : D := .tup [.int M.n, .tup (M.pairs.map prD)]
def lawD (M : Mo) : D := .tup [.lst ((List.range M.n).map fun i => .lst ((List.range M.n).map fun j => .bl (M.s i j))), vD M.v]
def kept (M : Mo) : List (Str × List Nat) := M.v.filter fun p => !p.2.isEmpty
def D' (M : Mo) : D := .ins "Model" ["_frame", "_seen", "_values"] [M.frD, .lst ((List.range M.n).map fun i => nsD (M.row i)), vD M.kept]
end Mo
def WorldSpec (c : List D → M D) : Prop := ∀ (i n : Int) (ro w : List D), c [.int i, .int n] ro w = .ok (.bl (decide (0 ≤ i ∧ i < n))) w
def h_is_world : SF :=
  sRet (cAnd (cIsi .int (cVar 0)) (cAnd (cNot (cIsi .bl (cVar 0))) (cChain gLe gLt (cK (.int 0)) (cVar 0) (cVar 1))))
def h_is_frame (c_is_world : List D → M D) : SF :=
  sSeq (sAsg (.tp [1, 2]) (cVar 0))
  (sSeq (sIf (cOrT (cTru (cIsi .bl (cVar 1))) (cTest (cBin gLt (cVar 1) (cK (.int 1))))) (sRet (cK (.bl false))) (sNil))
  (sSeq (sFor (.nm 3) (cSeq (cVar 2)) (sIf (cOrT (cTest (cBin gNe (cCall (one gLen) (cArgs [cVar 3])) (cK (.int 2)))) (cOrT (cNotT (cTru (cCall (fun ds => if ds.length = 2 then c_is_world ds else M.no) (cArgs [cBin gIx (cVar 3) (cK (.int 0)), cVar 1])))) (cNotT (cTru (cCall (fun ds => if ds.length = 2 then c_is_world ds else M.no) (cArgs [cBin gIx (cVar 3) (cK (.int 1)), cVar 1])))))) (sRet (cK (.bl false))) (sNil)))
  (sRet (cBin gEq (cCall (one gList) (cArgs [cVar 2])) (cCall (one gSortSet) (cArgs [cVar 2]))))))
def h_Model_init (c_is_frame c_is_world : List D → M D) : SF :=
  sSeq (sIf (cNotT (cTru (cCall (fun ds => if ds.length = 1 then c_is_frame ds else M.no) (cArgs [cVar 1])))) (sRaise "InvalidModel") (sNil))
  (sSeq (sSetF "Model" "_frame" (cVar 0) (cTup (cArgs [cBin gIx (cVar 1) (cK (.int 0)), cCall (one gTuple) (cArgs [cBin gIx (cVar 1) (cK (.int 1))])])))
  (sSeq (sSetF "Model" "_seen" (cVar 0) (cComp (.nm 6) [6] (cRng1 (cArgs [cBin gIx (cVar 1) (cK (.int 0))])) (cYes) (cLstM (cArgs [])) kMut))
  (sSeq (sFor (.tp [3, 4]) (cSeq (cBin gIx (cVar 1) (cK (.int 1)))) (sExpr (cMl gAppend (cBin gIx (cFld "Model" "_seen" (cVar 0)) (cVar 3)) (cArgs [cVar 4]))))
  (sSeq (sSetF "Model" "_values" (cVar 0) (cDNew))
  (sForD (.nm 5) 2 (sSeq (sFor (.nm 4) (cSeq (cDGet (cVar 2) (cVar 5))) (sIf (cNotT (cTru (cCall (fun ds => if ds.length = 2 then c_is_world ds else M.no) (cArgs [cVar 4, cBin gIx (cVar 1) (cK (.int 0))])))) (sRaise "InvalidModel") (sNil)))
  (sIf (cTest (cBin gGt (cCall (one gLen) (cArgs [cDGet (cVar 2) (cVar 5)])) (cK (.int 0)))) (sDPutF (cFld "Model" "_values" (cVar 0)) (cVar 5) (cCall (one gSortSet) (cArgs [cDGet (cVar 2) (cVar 5)]))) (sNil))))))))
def h_Model_frame : SF :=
  sRet (cFld "Model" "_frame" (cVar 0))
def h_Model_true_worlds : SF :=
  sRet (cDcA (.nm 1) [1] "Model" 0 "_values" (cVar 1) (cCall (one gList) (cArgs [cDGet (cFld "Model" "_values" (cVar 0)) (cVar 1)])))
def h_Model_seen : SF :=
  sRet (cCall (one gList) (cArgs [cBin gIx (cFld "Model" "_seen" (cVar 0)) (cVar 1)]))
def h_worlds_of (c_Model_frame : List D → M D) : SF :=
  sRet (cLRg (cBin gIx (cMeth "Model" "frame" (fun ds => if ds.length = 1 then c_Model_frame ds else M.no) (cVar 0) (cArgs [])) (cK (.int 0))))
def h_evaluated (c_Model_true_worlds c_evaluated c_worlds_of c_Model_seen : List D → M D) : SF :=
  sSeq (sIf (cTest (cBin gEq (cBin gIx (cVar 1) (cK (.int 0))) (cK (.str "var")))) (sRet (cDGetD (cMeth "Model" "true_worlds" (fun ds => if ds.length = 1 then c_Model_true_worlds ds else M.no) (cVar 0) (cArgs [])) (cBin gIx (cVar 1) (cK (.int 1))) (cLst (cArgs [])))) (sNil))
  (sSeq (sIf (cTest (cBin gEq (cBin gIx (cVar 1) (cK (.int 0))) (cK (.str "falsum")))) (sRet (cLst (cArgs []))) (sNil))
  (sSeq (sSet 3 (cCall (fun ds => if ds.length = 3 then c_evaluated ds else M.no) (cArgs [cVar 0, cBin gIx (cVar 1) (cK (.int 1)), cVar 2])))
  (sSeq (sIf (cTest (cBin gEq (cBin gIx (cVar 1) (cK (.int 0))) (cK (.str "box")))) (sRet (cComp (.nm 6) [6] (cSeq (cCall (fun ds => if ds.length = 1 then c_worlds_of ds else M.no) (cArgs [cVar 0]))) (cTest (cBin gEq (cComp (.nm 7) [7] (cSeq (cMeth "Model" "seen" (fun ds => if ds.length = 2 then c_Model_seen ds else M.no) (cVar 0) (cArgs [cVar 6]))) (cTest (cBin gNotIn (cVar 7) (cVar 3))) (cVar 7) kStill) (cLst (cArgs [])))) (cVar 6) kStill)) (sNil))
  (sSeq (sSet 4 (cCall (fun ds => if ds.length = 3 then c_evaluated ds else M.no) (cArgs [cVar 0, cBin gIx (cVar 1) (cK (.int 2)), cVar 2])))
  (sSeq (sIf (cTest (cBin gEq (cBin gIx (cVar 1) (cK (.int 0))) (cK (.str "and")))) (sRet (cComp (.nm 6) [6] (cSeq (cVar 3)) (cTest (cBin gIn (cVar 6) (cVar 4))) (cVar 6) kStill)) (sNil))
  (sSeq (sIf (cTest (cBin gEq (cBin gIx (cVar 1) (cK (.int 0))) (cK (.str "or")))) (sRet (cComp (.nm 6) [6] (cSeq (cCall (fun ds => if ds.length = 1 then c_worlds_of ds else M.no) (cArgs [cVar 0]))) (cOrT (cTest (cBin gIn (cVar 6) (cVar 3))) (cTest (cBin gIn (cVar 6) (cVar 4)))) (cVar 6) kStill)) (sNil))
  (sSeq (sSet 5 (cComp (.nm 6) [6] (cSeq (cCall (fun ds => if ds.length = 1 then c_worlds_of ds else M.no) (cArgs [cVar 0]))) (cOrT (cTest (cBin gNotIn (cVar 6) (cVar 3))) (cTest (cBin gIn (cVar 6) (cVar 4)))) (cVar 6) kStill))
  (sSeq (sIf (cNotT (cTru (cVar 2))) (sRet (cVar 5)) (sNil))
  (sRet (cComp (.nm 6) [6] (cSeq (cCall (fun ds => if ds.length = 1 then c_worlds_of ds else M.no) (cArgs [cVar 0]))) (cTest (cBin gEq (cComp (.nm 7) [7] (cSeq (cMeth "Model" "seen" (fun ds => if ds.length = 2 then c_Model_seen ds else M.no) (cVar 0) (cArgs [cVar 6]))) (cTest (cBin gNotIn (cVar 7) (cVar 5))) (cVar 7) kStill) (cLst (cArgs [])))) (cVar 6) kStill))))))))))
def h_truth (c_evaluated : List D → M D) : SF :=
  sRet (cCall (fun ds => if ds.length = 3 then c_evaluated ds else M.no) (cArgs [cVar 0, cVar 1, cK (.bl false)]))
section
variable {ro w : List D} {env : Env}
theorem for_skip {α : Type} {h : α → D} {k : Nat} {s : SF} : ∀ {l : List α} {env : Env}, (∀ a ∈ l, s (env.set k (some (h a))) ro w = .go .nx (env.set k (some (h a))) w) → forL (.nm k) s (l.map h) env ro w = .go .nx (match l.getLast? with
    | none => env
    | some a => env.set k (some (h a))) w
  | [], env, _ => rfl
  | a :: l, env, hs => by
    have ih := for_skip (l := l) (env := env.set k (some (h a))) fun b hb => by
      rw [List.set_set]
      exact hs b (List.mem_cons_of_mem _ hb)
    rw [List.map_cons, for_nm, hs a (by simp), tn_nx, ih]
    congr 1
    rw [List.getLast?_cons]
    cases l.getLast? with
    | none => rfl
    | some b => simp
end
theorem world_ok : WorldSpec (runDef 2 2 h_is_world) := by
  intro i n ro w
  by_cases h : 0 ≤ i <;> simp [x_def, h_is_world, isTy, h]
theorem pr_pairs {l : List (Nat × Nat)} (h : ∀ p ∈ l, p.1 < 64 ∧ p.2 < 64) : asPairs (l.map prD) = some (l.map fun p => [(p.1 : Int), (p.2 : Int)]) := by
  induction l with
  | nil => rfl
  | cons p l ih =>
    have hp := h p (by simp)
    have e : asPair (prD p) = some [(p.1 : Int), (p.2 : Int)] := by
      show (if (0 ≤ (p.1 : Int) ∧ (p.1 : Int) < 64) ∧ (0 ≤ (p.2 : Int) ∧ (p.2 : Int) < 64) then some [(p.1 : Int), (p.2 : Int)] else none) = _
      rw [if_pos (by omega)]
    rw [List.map_cons, List.map_cons]
    unfold asPairs
    rw [e, ih fun q hq => h q (List.mem_cons_of_mem _ hq)]
theorem asc_self {α : Type} {f : α → Int} : ∀ {l : List α}, Asc f l → setK f l = l
  | [], _ => rfl
  | x :: l, h => by
    obtain ⟨h1, h2⟩ := List.pairwise_cons.mp h
    show insK f x (setK f l) = _
    rw [asc_self h2]
    cases l with
    | nil => rfl
    | cons y l => 
      unfold insK
      rw [if_pos (h1 y (by simp))]
/-- ascending pairs, below n -/
def PairsOk (n : Nat) (l : List (Nat × Nat)) : Prop := (∀ p ∈ l, p.1 < n ∧ p.2 < n) ∧ l.Pairwise (fun p q => p.1 * 64 + p.2 < q.1 * 64 + q.2) ∧ l.length < 64
def FrameSpec (c : List D → M D) : Prop := ∀ (n : Nat) (l : List (Nat × Nat)) (ro w : List D), 0 < n → n < 64 → PairsOk n l → c [.tup [.int n, .tup (l.map prD)]] ro w = .ok (.bl true) w
theorem prs_eqo {l : List (Nat × Nat)} : (D.lst (l.map prD)).eqo = true := by
  refine eqo_of ?_ ?_ ?_
  · show D.nbs _ = true
    exact nbs_iff.mpr fun d hd => by obtain ⟨p, _, rfl⟩ := List.mem_map.mp hd; rfl
  · show D.lays _ = true
    exact lays_iff.mpr fun d hd => by obtain ⟨p, _, rfl⟩ := List.mem_map.mp hd; rfl
  · have : D.dps (l.map prD) ≤ 1 := dps_iff.mpr fun d hd => by obtain ⟨p, _, rfl⟩ := List.mem_map.mp hd; exact Nat.le_refl _
    simp only [D.dp]
    omega
theorem set_prs {n : Nat} {l : List (Nat × Nat)} (hn : n < 64) (h : PairsOk n l) {ro w : List D} : gSortSet (.tup (l.map prD)) ro w = .ok (.lst (l.map prD)) w := by
  obtain ⟨h1, h2, h3⟩ := h
  have ep := pr_pairs (l := l) fun p hp => by have := h1 p hp; omega
  have e : setK pairK (l.map fun p => [(p.1 : Int), (p.2 : Int)]) = l.map fun p => [(p.1 : Int), (p.2 : Int)] := by
    refine asc_self (List.pairwise_map.mpr (h2.imp fun {p q} h => ?_))
    rw [pairK_two, pairK_two]
    omega
  have es : sortSet (.tup (l.map prD)) = some (l.map prD) := by
    simp only [sortSet, ep, List.length_map, h3, if_true, e, List.map_map]
    rfl
  unfold gSortSet
  rw [es]
theorem frame_ok {c : List D → M D} (hc : WorldSpec c) : FrameSpec (runDef 1 4 (h_is_frame c)) := by
  intro n l ro w h0 hn hp
  have hl := for_skip (h := prD) (k := 3) (l := l) (ro := ro) (w := w) (env := [some (.tup [.int n, .tup (l.map prD)]), some (.int n), some (.tup (l.map prD)), none])
    (s := sIf (cOrT (cTest (cBin gNe (cCall (one gLen) (cArgs [cVar 3])) (cK (.int 2)))) (cOrT (cNotT (cTru (cCall (fun ds => if ds.length = 2 then c ds else M.no) (cArgs [cBin gIx (cVar 3) (cK (.int 0)), cVar 1])))) (cNotT (cTru (cCall (fun ds => if ds.length = 2 then c ds else M.no) (cArgs [cBin gIx (cVar 3) (cK (.int 1)), cVar 1])))))) (sRet (cK (.bl false))) (sNil))
    fun p hq => by
      have hb := hp.1 p hq
      have e1 : (0 : Int) ≤ (p.1 : Int) ∧ (p.1 : Int) < n := by omega
      have e2 : (0 : Int) ≤ (p.2 : Int) ∧ (p.2 : Int) < n := by omega
      simp [prD, hc _ _ _ _, e1, e2]
  have ht : Tg.put (.tp [1, 2]) (.tup [.int n, .tup (l.map prD)]) [some (.tup [.int n, .tup (l.map prD)]), none, none, none] = some [some (.tup [.int n, .tup (l.map prD)]), some (.int n), some (.tup (l.map prD)), none] := rfl
  have ha := x_asg (f := cVar 0) (t := .tp [1, 2]) (ro := ro) (w := w) (w1 := w) (d := .tup [.int n, .tup (l.map prD)]) rfl ht
  have hz : ¬ ((n : Int) < 1) := by omega
  simp only [x_def, h_is_frame, List.length_singleton, if_true, List.map_cons, List.map_nil, Nat.reduceSub, List.replicate, List.cons_append, List.nil_append, x_seq, ha, oan_nx]
  cases q : l.getLast? with
  | none =>
    rw [q] at hl
    simp [x_for, hl, isTy, hz, set_prs hn hp, eq_eqo prs_eqo prs_eqo]
  | some p =>
    rw [q] at hl
    simp [x_for, hl, isTy, hz, set_prs hn hp, eq_eqo prs_eqo prs_eqo]
end Fx
/-! Models: a new one. -/
namespace Fx
open PySem PySem.Spec L2
section
variable {ro w : List D} {env : Env}
theorem see_at {k : Nat} {d : D} (h : w[k]? = some d) : see ro w (.ref (ro.length + k)) = d := by
  rw [see_ref, List.getElem?_append_right (by omega), Nat.add_sub_cancel_left, h]
  rfl
theorem see_at0 {d : D} {w : List D} : see ro (d :: w) (.ref ro.length) = d := see_at (k := 0) rfl
theorem dput_at {n : Nat} {v k : D} {ks xs : List D} (h : w[n]? = some (.dic ks xs)) (hk : (keyOf k).isSome = true) (hl : ks.length < sizeLine) : gDPut v (.ref (ro.length + n)) k ro w = .ok .non (w.set n (dput ks xs k v)) := by
  unfold gDPut
  simp [h, hk, hl]
theorem append_at {n : Nat} {d : D} {ds : List D} (h : w[n]? = some (.lst ds)) (hl : ds.length < sizeLine) : gAppend [d] (.ref (ro.length + n)) ro w = .ok .non (w.set n (.lst (ds ++ [d]))) := by
  unfold gAppend
  have := mod_at (ro := ro) (w := w) (n := ro.length + n) (ds := ds) (f := fun es => if es.length < sizeLine then some (.non, es ++ [d]) else none) (d := .non) (ds' := ds ++ [d]) (by omega) (by rw [Nat.add_sub_cancel_left]; exact h) (by simp [hl])
  rw [Nat.add_sub_cancel_left] at this
  exact this
/-- new lists, one a turn -/
theorem comp_new {k : Nat} : ∀ (ds : List D) (w : List D), compR (.nm k) cYes (cLstM (cArgs [])) env ds ro w = .ok ((List.range ds.length).map fun i => .ref (ro.length + (w.length + i))) (w ++ List.replicate ds.length (.lst []))
  | [], w => by simp
  | d :: ds, w => by
    rw [comp_nm]
    simp only [x_yes, calm_ok', an_ok, if_true, x_lstM, x_args0, comp_new ds]
    simp only [List.length_cons, List.range_succ_eq_map, List.map_cons, List.map_map, List.length_append, List.length_nil, List.append_assoc, List.replicate_succ]
    congr 1
    · congr 1
      refine List.map_congr_left fun i _ => ?_
      show D.ref _ = D.ref _
      congr 1
      simp
      omega
end
def rowsOf (n : Nat) (l : List (Nat × Nat)) : List (List Nat) := (List.range n).map fun i => (l.filter fun p => p.1 == i).map (·.2)
theorem rows_step {n : Nat} {l : List (Nat × Nat)} {p : Nat × Nat} (h : p.1 < n) : rowsOf n (l ++ [p]) = (rowsOf n l).set p.1 (((l.filter fun q => q.1 == p.1).map (·.2)) ++ [p.2]) := by
  apply List.ext_getElem?
  intro i
  unfold rowsOf
  rw [List.getElem?_set]
  by_cases hi : i < n
  · by_cases e : p.1 = i
    · subst e
      simp [h]
    · have e' : ¬ (p.1 == i) = true := by simpa using e
      simp [hi, e, e']
  · have : ¬ p.1 = i := by omega
    simp [hi, this]
theorem rows_get {n i : Nat} {l : List (Nat × Nat)} (h : i < n) : (rowsOf n l)[i]? = some ((l.filter fun p => p.1 == i).map (·.2)) := by
  unfold rowsOf
  simp [h]
def sSeen : SF := sExpr (cMl gAppend (cBin gIx (cFld "Model" "_seen" (cVar 0)) (cVar 3)) (cArgs [cVar 4]))
theorem for_tp2 {i j : Nat} {x y : D} {ds : List D} {s : SF} {env : Env} {ro w : List D} : forL (.tp [i, j]) s (.tup [x, y] :: ds) env ro w = (s ((env.set i (some x)).set j (some y)) ro w).turn fun env2 w2 => forL (.tp [i, j]) s ds env2 ro w2 := for_cons rfl
theorem seen_loop {n : Nat} {ns : List Str} {xs tl : List D} {ro : List D} {b c e5 e6 : Option D} (hf : fieldV ns xs "_seen" = some (.ref (ro.length + (n + 1)))) : ∀ (l2 l1 : List (Nat × Nat)) (e3 e4 : Option D), (∀ p ∈ l2, p.1 < n) → l1.length + l2.length < 1000 →
    ∃ e3' e4', forL (.tp [3, 4]) sSeen (l2.map prD) [some (.ref ro.length), b, c, e3, e4, e5, e6] ro (.ins "Model" ns xs :: ((rowsOf n l1).map nsD ++ .lst ((List.range n).map fun i => .ref (ro.length + (1 + i))) :: tl)) =
      .go .nx [some (.ref ro.length), b, c, e3', e4', e5, e6] (.ins "Model" ns xs :: ((rowsOf n (l1 ++ l2)).map nsD ++ .lst ((List.range n).map fun i => .ref (ro.length + (1 + i))) :: tl))
  | [], l1, e3, e4, _, _ => ⟨e3, e4, by simp⟩
  | p :: l2, l1, e3, e4, h, hl => by
    have hp := h p (by simp)
    obtain ⟨e3', e4', ih⟩ := seen_loop (b := b) (c := c) (e5 := e5) (e6 := e6) (tl := tl) hf l2 (l1 ++ [p]) (some (.int p.1)) (some (.int p.2)) (fun q hq => h q (List.mem_cons_of_mem _ hq)) (by simp at hl ⊢; omega)
    refine ⟨e3', e4', ?_⟩
    rw [List.map_cons, show prD p = .tup [.int p.1, .int p.2] from rfl, for_tp2]
    have lr : (rowsOf n l1).length = n := by simp [rowsOf]
    have s1 : (.ins "Model" ns xs :: ((rowsOf n l1).map nsD ++ .lst ((List.range n).map fun i => .ref (ro.length + (1 + i))) :: tl) : List D)[n + 1]? = some (.lst ((List.range n).map fun i => .ref (ro.length + (1 + i)))) := by
      rw [List.getElem?_cons_succ, List.getElem?_append_right (by simp [lr])]
      simp [lr]
    have s2 : (.ins "Model" ns xs :: ((rowsOf n l1).map nsD ++ .lst ((List.range n).map fun i => .ref (ro.length + (1 + i))) :: tl) : List D)[1 + p.1]? = some (nsD ((l1.filter fun q => q.1 == p.1).map (·.2))) := by
      rw [Nat.add_comm, List.getElem?_cons_succ, List.getElem?_append_left (by simp [lr, hp]), List.getElem?_map, rows_get hp]
      rfl
    have s3 : gIx (.lst ((List.range n).map fun i => D.ref (ro.length + (1 + i)))) (.int p.1) ro (.ins "Model" ns xs :: ((rowsOf n l1).map nsD ++ .lst ((List.range n).map fun i => .ref (ro.length + (1 + i))) :: tl)) = .ok (.ref (ro.length + (1 + p.1))) (.ins "Model" ns xs :: ((rowsOf n l1).map nsD ++ .lst ((List.range n).map fun i => .ref (ro.length + (1 + i))) :: tl)) := by
      rw [ix_lst, atI_nat]
      simp [hp]
    have hsz : sizeLine = 16777216 := rfl
    have hfl : (l1.filter fun q => q.1 == p.1).length ≤ l1.length := List.length_filter_le _ _
    have s4 := append_at (ro := ro) (d := .int p.2) s2 (by simp at hl ⊢; omega)
    have body : sSeen [some (.ref ro.length), b, c, some (.int p.1), some (.int p.2), e5, e6] ro (.ins "Model" ns xs :: ((rowsOf n l1).map nsD ++ .lst ((List.range n).map fun i => .ref (ro.length + (1 + i))) :: tl)) =
        .go .nx [some (.ref ro.length), b, c, some (.int p.1), some (.int p.2), e5, e6] (.ins "Model" ns xs :: ((rowsOf n (l1 ++ [p])).map nsD ++ .lst ((List.range n).map fun i => .ref (ro.length + (1 + i))) :: tl)) := by
      unfold sSeen
      rw [x_expr, x_ml, x_bin, x_fld]
      simp only [x_var, List.getElem?_cons_zero, List.getElem?_cons_succ, ofO_ss, an_ok, see_at0, fld_ins hf, see_at s1, see_int, s3, see_at s2, mlV_lst, x_args, x_args0, s4, st_ok]
      congr 1
      rw [rows_step hp, List.map_set, Nat.add_comm 1 p.1, List.set_cons_succ, List.set_append_left _ _ (by simp [lr, hp])]
      simp [nsD, nD, Function.comp_def]
    rw [show (([some (.ref ro.length), b, c, e3, e4, e5, e6] : Env).set 3 (some (.int p.1))).set 4 (some (.int p.2)) = [some (.ref ro.length), b, c, some (.int p.1), some (.int p.2), e5, e6] from rfl, body, tn_nx, ih]
    simp
/-! ### the values -/
def srt (l : List Nat) : List Nat := setK (fun i : Nat => (i : Int)) l
theorem srt_map : ∀ (l : List Nat), setK id (l.map fun i : Nat => (i : Int)) = (srt l).map fun i : Nat => (i : Int)
  | [] => rfl
  | x :: l => by
    have e : ∀ (m : List Nat), insK id (x : Int) (m.map fun i : Nat => (i : Int)) = (insK (fun i : Nat => (i : Int)) x m).map fun i : Nat => (i : Int) := by
      intro m
      induction m with
      | nil => rfl
      | cons y m ih =>
        simp only [List.map_cons, insK, id]
        split
        · rfl
        · split
          · rfl
          · rw [List.map_cons, ← ih]
    show insK id (x : Int) (setK id (l.map fun i : Nat => (i : Int))) = (insK _ x (srt l)).map _
    rw [srt_map l, e]
theorem srt_self {l : List Nat} (h : l.Pairwise (· < ·)) : srt l = l := asc_self (h.imp fun h => by simpa using h)
theorem sortSet_ns {l : List Nat} {ro w : List D} (h : l.length < 64) : gSortSet (nsD l) ro w = .ok (nsD (srt l)) w := by
  have e0 : (l.map nD) = ((l.map fun i : Nat => (i : Int)).map D.int) := by rw [List.map_map]; rfl
  have ea : asInts (l.map nD) = some (l.map fun i : Nat => (i : Int)) := by
    rw [e0]
    exact asInts_map _
  have e : sortSet (nsD l) = some ((srt l).map nD) := by
    simp only [sortSet, ea, List.length_map, h, if_true, srt_map, List.map_map]
    rfl
  unfold gSortSet
  rw [e]
def keptS (v : List (Str × List Nat)) : List (Str × List Nat) := (v.filter fun p => !p.2.isEmpty).map fun p => (p.1, srt p.2)
def vks (v : List (Str × List Nat)) : List D := v.map fun p => .str p.1
def vxs (v : List (Str × List Nat)) : List D := v.map fun p => nsD p.2
theorem vD_eq (v : List (Str × List Nat)) : vD v = .dic (vks v) (vxs v) := rfl
theorem dget_v : ∀ {v : List (Str × List Nat)} {p : Str × List Nat}, (v.map (·.1)).Nodup → p ∈ v → dget (vks v) (vxs v) (.str p.1) = some (nsD p.2)
  | [], p, _, h => by cases h
  | q :: v, p, nd, h => by
    rw [List.map_cons, List.nodup_cons] at nd
    show (if keyOf (.str q.1) = keyOf (.str p.1) then some (nsD q.2) else dget (vks v) (vxs v) (.str p.1)) = _
    rcases List.mem_cons.mp h with e | h
    · subst e
      rw [if_pos rfl]
    · have ne : ¬ keyOf (.str q.1) = keyOf (.str p.1) := by
        simp only [keyOf_str, Option.some.injEq, Sum.inr.injEq]
        intro e
        exact nd.1 (by rw [e]; exact List.mem_map_of_mem h)
      rw [if_neg ne]
      exact dget_v nd.2 h
theorem dhas_v {v : List (Str × List Nat)} {x : Str} (h : x ∉ v.map (·.1)) : dhas (vks v) (.str x) = false := by
  unfold dhas vks
  rw [List.any_eq_false]
  intro d hd
  obtain ⟨p, hp, rfl⟩ := List.mem_map.mp hd
  simp only [keyOf_str, Option.some.injEq, Sum.inr.injEq, decide_eq_true_eq]
  intro e
  exact h (by rw [← e]; exact List.mem_map_of_mem hp)
theorem kept_names {v : List (Str × List Nat)} {x : Str} (h : x ∈ (keptS v).map (·.1)) : x ∈ v.map (·.1) := by
  unfold keptS at h
  simp only [List.map_map, List.mem_map, List.mem_filter, Function.comp] at h
  obtain ⟨p, ⟨hp, _⟩, rfl⟩ := h
  exact List.mem_map_of_mem hp
def sVal (cw : List D → M D) : SF := sSeq (sFor (.nm 4) (cSeq (cDGet (cVar 2) (cVar 5))) (sIf (cNotT (cTru (cCall (fun ds => if ds.length = 2 then cw ds else M.no) (cArgs [cVar 4, cBin gIx (cVar 1) (cK (.int 0))])))) (sRaise "InvalidModel") (sNil)))
  (sIf (cTest (cBin gGt (cCall (one gLen) (cArgs [cDGet (cVar 2) (cVar 5)])) (cK (.int 0)))) (sDPutF (cFld "Model" "_values" (cVar 0)) (cVar 5) (cCall (one gSortSet) (cArgs [cDGet (cVar 2) (cVar 5)]))) (sNil))
theorem val_loop {cw : List D → M D} (hw : WorldSpec cw) {n m : Nat} {fr : D} {frs : List D} {pre : List D} {ns : List Str} {ys ro : List D} {v0 : List (Str × List Nat)} {e3 e6 : Option D} (hfr : fr = .tup (.int n :: frs)) (hp0 : pre[0]? = some (.ins "Model" ns ys)) (hpl : pre.length = m) (hf : fieldV ns ys "_values" = some (.ref (ro.length + m)))
    (nd : (v0.map (·.1)).Nodup) (hr : ∀ p ∈ v0, (∀ i ∈ p.2, i < n) ∧ p.2.length < 64) (hsz : v0.length < 1000) : ∀ (v2 v1 : List (Str × List Nat)) (e4 e5 : Option D), v0 = v1 ++ v2 →
    ∃ e4' e5', forL (.nm 5) (sVal cw) (vks v2) [some (.ref ro.length), some fr, some (vD v0), e3, e4, e5, e6] ro (pre ++ [vD (keptS v1)]) = .go .nx [some (.ref ro.length), some fr, some (vD v0), e3, e4', e5', e6] (pre ++ [vD (keptS v0)])
  | [], v1, e4, e5, h => ⟨e4, e5, by rw [h, List.append_nil]; rfl⟩
  | p :: v2, v1, e4, e5, h => by
    have hp : p ∈ v0 := by rw [h]; simp
    obtain ⟨hb, hl⟩ := hr p hp
    have hs : sizeLine = 16777216 := rfl
    have g : ∀ w, gDGet (vD v0) (.str p.1) ro w = .ok (nsD p.2) w := fun w => dget_eq (by simp) (dget_v nd hp)
    have hpp : 0 < pre.length := (List.getElem?_eq_some_iff.mp hp0).1
    have w0 : ∀ d, see ro (pre ++ [d]) (.ref ro.length) = .ins "Model" ns ys := fun d => see_at (k := 0) (by rw [List.getElem?_append_left hpp]; exact hp0)
    have nk : p.1 ∉ (keptS v1).map (·.1) := fun hm => by
      rw [h, List.map_append, List.nodup_append] at nd
      exact nd.2.2 _ (kept_names hm) p.1 (by simp) rfl
    have in1 : ∃ e4', ∀ w, forL (.nm 4) (sIf (cNotT (cTru (cCall (fun ds => if ds.length = 2 then cw ds else M.no) (cArgs [cVar 4, cBin gIx (cVar 1) (cK (.int 0))])))) (sRaise "InvalidModel") (sNil)) (p.2.map nD) [some (.ref ro.length), some fr, some (vD v0), e3, e4, some (.str p.1), e6] ro w = .go .nx [some (.ref ro.length), some fr, some (vD v0), e3, e4', some (.str p.1), e6] w := by
      refine ⟨match p.2.getLast? with
        | none => e4
        | some a => some (nD a), fun w => (for_skip (h := nD) (k := 4) fun i hi => ?_).trans ?_⟩
      · have e1 : (0 : Int) ≤ (i : Int) ∧ (i : Int) < n := by have := hb i hi; omega
        subst hfr
        simp [hw _ _ _ _, e1]
      · cases p.2.getLast? <;> rfl
    obtain ⟨e4', in1⟩ := in1
    have body : sVal cw [some (.ref ro.length), some fr, some (vD v0), e3, e4, some (.str p.1), e6] ro (pre ++ [vD (keptS v1)]) = .go .nx [some (.ref ro.length), some fr, some (vD v0), e3, e4', some (.str p.1), e6] (pre ++ [vD (keptS (v1 ++ [p]))]) := by
      unfold sVal
      rw [x_seq, x_for]
      simp only [x_seqI, x_dget, x_var, List.getElem?_cons_zero, List.getElem?_cons_succ, ofO_ss, an_ok, vD_eq, see_dic]
      simp only [← vD_eq, g, an_ok, seqV_lst, st_ok, in1, oan_nx]
      simp only [x_ifS, x_test, x_bin, x_call, x_args, x_args0, x_dget, x_var, List.getElem?_cons_zero, List.getElem?_cons_succ, ofO_ss, an_ok, vD_eq, see_dic]
      simp only [← vD_eq, g, an_ok, x_one, see_lst, len_lst, x_k, see_int, gt_int, bool_bl, st_ok, List.length_map]
      by_cases q : p.2 = []
      · have ek : keptS (v1 ++ [p]) = keptS v1 := by
          unfold keptS
          simp [q]
        rw [ek, q]
        simp
      · have ek : keptS (v1 ++ [p]) = keptS v1 ++ [(p.1, srt p.2)] := by
          unfold keptS
          simp [q]
        have hz : (0 : Int) < p.2.length := by
          have := List.length_pos_iff.mpr q
          omega
        have d0 : (pre ++ [vD (keptS v1)])[m]? = some (.dic (vks (keptS v1)) (vxs (keptS v1))) := by
          rw [List.getElem?_append_right (by omega)]
          simp [hpl, vD_eq]
        have hlen : (vks (keptS v1)).length < sizeLine := by
          have h1 : (vks (keptS v1)).length ≤ v1.length := by
            unfold vks keptS
            simp only [List.length_map]
            exact List.length_filter_le _ _
          have h2 : v1.length ≤ v0.length := by rw [h]; simp
          omega
        have d1 := dput_at (ro := ro) (v := nsD (srt p.2)) (k := .str p.1) d0 (by simp) hlen
        have d2 : dput (vks (keptS v1)) (vxs (keptS v1)) (.str p.1) (nsD (srt p.2)) = vD (keptS (v1 ++ [p])) := by
          unfold dput
          rw [dhas_v nk, ek, vD_eq]
          simp [vks, vxs]
        rw [d2] at d1
        simp only [hz, decide_true, if_true, x_dput, x_call, x_args, x_args0, x_dget, x_var, List.getElem?_cons_zero, List.getElem?_cons_succ, ofO_ss, an_ok, vD_eq, see_dic]
        simp only [← vD_eq, g, an_ok, x_one, see_lst, sortSet_ns hl, st_ok, x_fld, x_var, List.getElem?_cons_zero, List.getElem?_cons_succ, ofO_ss, w0, fld_ins hf, d1]
        congr 1
        rw [List.set_append_right _ _ (by omega), hpl, Nat.sub_self]
        rfl
    obtain ⟨e4'', e5'', ih⟩ := val_loop hw (e3 := e3) (e6 := e6) hfr hp0 hpl hf nd hr hsz v2 (v1 ++ [p]) e4' (some (.str p.1)) (by rw [h]; simp)
    refine ⟨e4'', e5'', ?_⟩
    show forL (.nm 5) (sVal cw) (.str p.1 :: vks v2) _ _ _ = _
    rw [for_nm]
    show (sVal cw [some (.ref ro.length), some fr, some (vD v0), e3, e4, some (.str p.1), e6] ro (pre ++ [vD (keptS v1)])).turn _ = _
    rw [body, tn_nx, ih]
/-! ### the whole -/
def frD (n : Nat) (l : List (Nat × Nat)) : D := .tup [.int n, .tup (l.map prD)]
def initW (b n : Nat) (l : List (Nat × Nat)) (v : List (Str × List Nat)) : List D :=
  (.ins "Model" ["_frame", "_seen", "_values"] [frD n l, .ref (b + (n + 1)), .ref (b + (n + 2))] :: ((rowsOf n l).map nsD ++ [.lst ((List.range n).map fun i => .ref (b + (1 + i)))])) ++ [vD (keptS v)]
structure ValsOk (n : Nat) (v : List (Str × List Nat)) : Prop where
  nd : (v.map (·.1)).Nodup
  rng : ∀ p ∈ v, (∀ i ∈ p.2, i < n) ∧ p.2.length < 64
  few : v.length < 1000
theorem init_ok {cf cw : List D → M D} (hf : FrameSpec cf) (hw : WorldSpec cw) {n : Nat} {l : List (Nat × Nat)} {v : List (Str × List Nat)} (h0 : 0 < n) (hn : n < 64) (hl : PairsOk n l) (hv : ValsOk n v) (ro : List D) :
    runDef 3 7 (h_Model_init cf cw) [.ref ro.length, frD n l, vD v] ro [.ins "Model" [] []] = .ok .non (initW ro.length n l v) := by
  have hs : sizeLine = 16777216 := rfl
  have cf1 := fun w => hf n l ro w h0 hn hl
  have f1 : (runDef 3 7 (h_Model_init cf cw) [.ref ro.length, frD n l, vD v] ro [.ins "Model" [] []]) =
      ((sSeq (sFor (.tp [3, 4]) (cSeq (cBin gIx (cVar 1) (cK (.int 1)))) sSeen) (sSeq (sSetF "Model" "_values" (cVar 0) (cDNew)) (sForD (.nm 5) 2 (sVal cw)))) [some (.ref ro.length), some (frD n l), some (vD v), none, none, none, none] ro
        (.ins "Model" ["_frame", "_seen"] [frD n l, .ref (ro.length + (n + 1))] :: ((rowsOf n []).map nsD ++ .lst ((List.range n).map fun i => .ref (ro.length + (1 + i))) :: []))).fin := by
    have a1 : ∀ w, (sIf (cNotT (cTru (cCall (fun ds => if ds.length = 1 then cf ds else M.no) (cArgs [cVar 1])))) (sRaise "InvalidModel") (sNil)) [some (.ref ro.length), some (frD n l), some (vD v), none, none, none, none] ro w = .go .nx [some (.ref ro.length), some (frD n l), some (vD v), none, none, none, none] w := fun w => by
      have : cf [frD n l] ro w = .ok (.bl true) w := cf1 w
      simp [this]
    have a2 : (sSetF "Model" "_frame" (cVar 0) (cTup (cArgs [cBin gIx (cVar 1) (cK (.int 0)), cCall (one gTuple) (cArgs [cBin gIx (cVar 1) (cK (.int 1))])]))) [some (.ref ro.length), some (frD n l), some (vD v), none, none, none, none] ro [.ins "Model" [] []] =
        .go .nx [some (.ref ro.length), some (frD n l), some (vD v), none, none, none, none] [.ins "Model" ["_frame"] [frD n l]] := by
      have z := setF_at (f := "_frame") (v := frD n l) (n := ro.length) (ro := ro) (w := [.ins "Model" [] []]) (c := "Model") (ns := []) (xs := []) (Nat.lt_irrefl _) (by simp) (by decide)
      simp only [Nat.sub_self] at z
      have c2 : (cTup (cArgs [cBin gIx (cVar 1) (cK (.int 0)), cCall (one gTuple) (cArgs [cBin gIx (cVar 1) (cK (.int 1))])])) [some (.ref ro.length), some (frD n l), some (vD v), none, none, none, none] ro [.ins "Model" [] []] = .ok (frD n l) [.ins "Model" [] []] := by simp [frD]
      rw [x_setF, c2, st_ok]
      simp only [x_var, List.getElem?_cons_zero, ofO_ss, st_ok, z]
      rfl
    have a3 : (sSetF "Model" "_seen" (cVar 0) (cComp (.nm 6) [6] (cRng1 (cArgs [cBin gIx (cVar 1) (cK (.int 0))])) (cYes) (cLstM (cArgs [])) kMut)) [some (.ref ro.length), some (frD n l), some (vD v), none, none, none, none] ro [.ins "Model" ["_frame"] [frD n l]] =
        .go .nx [some (.ref ro.length), some (frD n l), some (vD v), none, none, none, none] (.ins "Model" ["_frame", "_seen"] [frD n l, .ref (ro.length + (n + 1))] :: ((rowsOf n []).map nsD ++ .lst ((List.range n).map fun i => .ref (ro.length + (1 + i))) :: [])) := by
      have z := setF_at (f := "_seen") (v := .ref (ro.length + (n + 1))) (n := ro.length) (ro := ro) (w := .ins "Model" ["_frame"] [frD n l] :: ((rowsOf n []).map nsD ++ .lst ((List.range n).map fun i => .ref (ro.length + (1 + i))) :: [])) (c := "Model") (ns := ["_frame"]) (xs := [frD n l]) (Nat.lt_irrefl _) (by simp) (by decide)
      have er : rowsOf n [] = List.replicate n [] := by
        unfold rowsOf
        apply List.ext_getElem?
        intro i
        by_cases hi : i < n <;> simp [hi, List.getElem?_replicate]
      have c1 := comp_new (k := 6) (env := [some (.ref ro.length), some (frD n l), some (vD v), none, none, none, none]) (ro := ro) (rngD 0 n) [.ins "Model" ["_frame"] [frD n l]]
      have hl2 : (rngD 0 n).length = n := by simp [rngD]
      rw [hl2] at c1
      have r1 := fun w => rng1_nat (n := n) (ro := ro) (w := w) (by omega)
      have r2 : ∀ w, gIx (frD n l) (.int 0) ro w = .ok (.int n) w := fun w => by simp [frD]
      have hl3 : (rngD 0 n).length ≤ sizeLine := by omega
      rw [x_setF, x_comp]
      simp only [x_rng1, x_args, x_args0, x_bin, x_var, x_k, List.getElem?_cons_zero, List.getElem?_cons_succ, ofO_ss, an_ok, see_int, r2, show ∀ w, see ro w (frD n l) = frD n l from fun _ => rfl, r1, hl3, if_true]
      rw [show wipeE ([some (.ref ro.length), some (frD n l), some (vD v), none, none, none, none] : Env) [6] = [some (.ref ro.length), some (frD n l), some (vD v), none, none, none, none] from rfl, c1]
      simp only [an_ok, x_mut, st_ok]
      rw [er] at z ⊢
      simp only [List.map_replicate, List.length_singleton, List.length_append, List.length_replicate, Nat.sub_self] at z ⊢
      rw [show [D.ins "Model" ["_frame"] [frD n l]] ++ List.replicate n (D.lst []) ++ [.lst ((List.range n).map fun i => .ref (ro.length + (1 + i)))] = .ins "Model" ["_frame"] [frD n l] :: (List.replicate n (nsD []) ++ .lst ((List.range n).map fun i => .ref (ro.length + (1 + i))) :: []) from by simp [nsD], Nat.add_comm 1 n, z]
      simp only [st_ok]
      rfl
    rw [x_def]
    simp only [List.length_cons, List.length_nil, Nat.zero_add, Nat.reduceAdd, if_true, List.map_cons, List.map_nil, Nat.reduceSub, List.replicate, List.cons_append, List.nil_append]
    unfold h_Model_init
    rw [x_seq, a1, oan_nx, x_seq, a2, oan_nx, x_seq, a3, oan_nx]
    rfl
  rw [f1]
  obtain ⟨e3, e4, g1⟩ := seen_loop (n := n) (ns := ["_frame", "_seen"]) (xs := [frD n l, .ref (ro.length + (n + 1))]) (tl := []) (ro := ro) (b := some (frD n l)) (c := some (vD v)) (e5 := none) (e6 := none) (by simp [fieldV, ofString_inj]) l [] none none (fun p hp => (hl.1 p hp).1) (by have := hl.2.2; simp; omega)
  rw [List.nil_append] at g1
  have it1 : ∀ w, cSeq (cBin gIx (cVar 1) (cK (.int 1))) [some (.ref ro.length), some (frD n l), some (vD v), none, none, none, none] ro w = .ok (l.map prD) w := fun w => by simp [frD]
  rw [x_seq, x_for, it1, st_ok, g1, oan_nx, x_seq]
  have a4 : (sSetF "Model" "_values" (cVar 0) (cDNew)) [some (.ref ro.length), some (frD n l), some (vD v), e3, e4, none, none] ro (.ins "Model" ["_frame", "_seen"] [frD n l, .ref (ro.length + (n + 1))] :: ((rowsOf n l).map nsD ++ .lst ((List.range n).map fun i => .ref (ro.length + (1 + i))) :: [])) =
      .go .nx [some (.ref ro.length), some (frD n l), some (vD v), e3, e4, none, none] ((.ins "Model" ["_frame", "_seen", "_values"] [frD n l, .ref (ro.length + (n + 1)), .ref (ro.length + (n + 2))] :: ((rowsOf n l).map nsD ++ [.lst ((List.range n).map fun i => .ref (ro.length + (1 + i)))])) ++ [vD (keptS [])]) := by
    have z := setF_at (f := "_values") (v := .ref (ro.length + (n + 2))) (n := ro.length) (ro := ro) (w := .ins "Model" ["_frame", "_seen"] [frD n l, .ref (ro.length + (n + 1))] :: ((rowsOf n l).map nsD ++ .lst ((List.range n).map fun i => .ref (ro.length + (1 + i))) :: []) ++ [.dic [] []]) (c := "Model") (ns := ["_frame", "_seen"]) (xs := [frD n l, .ref (ro.length + (n + 1))]) (Nat.lt_irrefl _) (by simp) (by decide)
    have lr : (rowsOf n l).length = n := by simp [rowsOf]
    rw [x_setF]
    simp only [x_dnew, st_ok, x_var, List.getElem?_cons_zero, ofO_ss, List.length_cons, List.length_append, List.length_map, lr, List.length_nil]
    rw [show n + (0 + 1) + 1 = n + 2 from rfl, z]
    simp only [st_ok, Nat.sub_self]
    congr 1
  rw [a4, oan_nx, x_forD, x_for]
  have k1 : cKeys 2 [some (.ref ro.length), some (frD n l), some (vD v), e3, e4, none, none] ro ((.ins "Model" ["_frame", "_seen", "_values"] [frD n l, .ref (ro.length + (n + 1)), .ref (ro.length + (n + 2))] :: ((rowsOf n l).map nsD ++ [.lst ((List.range n).map fun i => .ref (ro.length + (1 + i)))])) ++ [vD (keptS [])]) = .ok (vks v) _ := x_keys rfl
  have lr : (rowsOf n l).length = n := by simp [rowsOf]
  obtain ⟨e4', e5', g2⟩ := val_loop hw (n := n) (m := n + 2) (fr := frD n l) (frs := [.tup (l.map prD)]) (pre := .ins "Model" ["_frame", "_seen", "_values"] [frD n l, .ref (ro.length + (n + 1)), .ref (ro.length + (n + 2))] :: ((rowsOf n l).map nsD ++ [.lst ((List.range n).map fun i => .ref (ro.length + (1 + i)))])) (ns := ["_frame", "_seen", "_values"]) (ys := [frD n l, .ref (ro.length + (n + 1)), .ref (ro.length + (n + 2))]) (ro := ro) (v0 := v) (e3 := e3) (e6 := none) rfl rfl (by simp [lr]) (by simp [fieldV, ofString_inj]) hv.nd hv.rng hv.few v [] e4 none rfl
  rw [k1, st_ok, g2]
  rfl
/-! ### told -/
mutual
theorem tell_self {φ : Nat → Option D} : ∀ d : D, D.under 0 d = true → D.tell φ d = some d
  | .ref n, h => by simp [D.under] at h
  | .tup ds, h => by
    unfold D.tell
    rw [tells_self ds (by simpa [D.under] using h)]
    rfl
  | .lst ds, h => by
    unfold D.tell
    rw [tells_self ds (by simpa [D.under] using h)]
    rfl
  | .dic ks ds, h => by
    unfold D.tell
    rw [tells_self ds (by simpa [D.under] using h)]
    rfl
  | .dct ks ds, h => by
    unfold D.tell
    rw [tells_self ds (by simpa [D.under] using h)]
    rfl
  | .ins c ns ds, h => by
    unfold D.tell
    rw [tells_self ds (by simpa [D.under] using h)]
    rfl
  | .non, h => rfl
  | .bl _, h => rfl
  | .int _, h => rfl
  | .str _, h => rfl
  | .fn _, h => rfl
theorem tells_self {φ : Nat → Option D} : ∀ ds : List D, D.unders 0 ds = true → D.tells φ ds = some ds
  | [], h => rfl
  | d :: ds, h => by
    simp only [D.unders, Bool.and_eq_true] at h
    unfold D.tells
    rw [tell_self d h.1, tells_self ds h.2]
end
theorem unders_iff {n : Nat} : ∀ {ds : List D}, D.unders n ds = true ↔ ∀ d ∈ ds, D.under n d = true
  | [] => by simp [D.unders]
  | d :: ds => by simp [D.unders, unders_iff (ds := ds)]
theorem under_ns {n : Nat} {l : List Nat} : D.under n (nsD l) = true := by
  show D.unders n (l.map nD) = true
  exact unders_iff.mpr fun d hd => by obtain ⟨i, _, rfl⟩ := List.mem_map.mp hd; rfl
theorem under_fr {k n : Nat} {l : List (Nat × Nat)} : D.under k (frD n l) = true := by
  have : D.unders k (l.map prD) = true := unders_iff.mpr fun d hd => by obtain ⟨i, _, rfl⟩ := List.mem_map.mp hd; rfl
  simp [frD, D.under, D.unders, this]
theorem under_v {k : Nat} {v : List (Str × List Nat)} : D.under k (vD v) = true := by
  show D.unders k (v.map fun p => nsD p.2) = true
  exact unders_iff.mpr fun d hd => by obtain ⟨i, _, rfl⟩ := List.mem_map.mp hd; exact under_ns
theorem tells_maps {α : Type} {φ : Nat → Option D} {f g : α → D} : ∀ {l : List α}, (∀ a ∈ l, D.tell φ (f a) = some (g a)) → D.tells φ (l.map f) = some (l.map g)
  | [], _ => rfl
  | a :: l, h => by
    rw [List.map_cons, List.map_cons]
    unfold D.tells
    rw [h a (by simp), tells_maps fun b hb => h b (List.mem_cons_of_mem _ hb)]
theorem told_at {b k m : Nat} {w : List D} {d : D} (h : w[m]? = some d) : told b w (k + 1) (b + m) = D.tell (told b w k) d := by
  unfold told
  rw [if_neg (by omega), Nat.add_sub_cancel_left, h]
def modD (n : Nat) (l : List (Nat × Nat)) (v : List (Str × List Nat)) : D := .ins "Model" ["_frame", "_seen", "_values"] [frD n l, .lst ((rowsOf n l).map nsD), vD (keptS v)]
theorem told_model {b n : Nat} {l : List (Nat × Nat)} {v : List (Str × List Nat)} : told b (initW b n l v) 4 b = some (modD n l v) := by
  have lr : (rowsOf n l).length = n := by simp [rowsOf]
  have w0 : (initW b n l v)[0]? = some (.ins "Model" ["_frame", "_seen", "_values"] [frD n l, .ref (b + (n + 1)), .ref (b + (n + 2))]) := rfl
  have w1 : (initW b n l v)[n + 1]? = some (.lst ((List.range n).map fun i => .ref (b + (1 + i)))) := by
    unfold initW
    rw [List.getElem?_append_left (by simp [lr]), List.getElem?_cons_succ, List.getElem?_append_right (by simp [lr])]
    simp [lr]
  have w2 : (initW b n l v)[n + 2]? = some (vD (keptS v)) := by
    unfold initW
    rw [List.getElem?_append_right (by simp [lr])]
    simp [lr]
  have w3 : ∀ i ∈ List.range n, (initW b n l v)[1 + i]? = some (nsD ((l.filter fun p => p.1 == i).map (·.2))) := fun i hi => by
    have hi := List.mem_range.mp hi
    unfold initW
    rw [Nat.add_comm 1 i, List.getElem?_append_left (by simp [lr]; omega), List.getElem?_cons_succ, List.getElem?_append_left (by simp [lr, hi]), List.getElem?_map, rows_get hi]
    rfl
  have t0 : ∀ i ∈ List.range n, D.tell (told b (initW b n l v) 2) (.ref (b + (1 + i))) = some (nsD ((l.filter fun p => p.1 == i).map (·.2))) := fun i hi => by
    unfold D.tell
    exact (told_at (k := 1) (w3 i hi)).trans (tell_self _ under_ns)
  have t1 : told b (initW b n l v) 3 (b + (n + 1)) = some (.lst ((rowsOf n l).map nsD)) := by
    rw [told_at w1]
    unfold D.tell
    rw [tells_maps (f := fun i => D.ref (b + (1 + i))) (g := fun i => nsD ((l.filter fun p => p.1 == i).map (·.2))) t0]
    simp [rowsOf, List.map_map, Function.comp_def]
  have t2 : told b (initW b n l v) 3 (b + (n + 2)) = some (vD (keptS v)) := by
    rw [told_at w2]
    exact tell_self _ under_v
  have w4 : told b (initW b n l v) 4 b = _ := told_at (b := b) (k := 3) (m := 0) w0
  rw [w4]
  simp only [D.tell, D.tells, t1, t2]
  rw [show D.tell (told b (initW b n l v) 3) (frD n l) = some (frD n l) from tell_self _ under_fr]
  rfl
def MakeSpec (c : List D → M D) : Prop := ∀ (n : Nat) (l : List (Nat × Nat)) (v : List (Str × List Nat)) (ro w : List D), 0 < n → n < 64 → PairsOk n l → ValsOk n v → c [frD n l, vD v] ro w = .ok (modD n l v) w
theorem make_model {g : List D → M D} (h : ∀ (n : Nat) (l : List (Nat × Nat)) (v : List (Str × List Nat)) (ro : List D), 0 < n → n < 64 → PairsOk n l → ValsOk n v → g [.ref ro.length, frD n l, vD v] ro [.ins "Model" [] []] = .ok .non (initW ro.length n l v)) : MakeSpec (pureD (mkD "Model" g)) := by
  intro n l v ro w h0 hn hl hv
  have z := h n l v (ro ++ w) h0 hn hl hv
  unfold pureD mkD
  simp only [List.length_nil, Nat.add_zero, List.nil_append, z]
  rw [show D.tell (told (ro ++ w).length (initW (ro ++ w).length n l v) 4) (.ref (ro ++ w).length) = some (modD n l v) from told_model]
end Fx
/-! Models: their methods, the worlds at which a formula is true. -/
namespace Fx
open PySem PySem.Spec L2
namespace Mo
variable {A : Mo}
theorem row_lt {i j : Nat} (h : j ∈ A.row i) : j < A.n := List.mem_range.mp (List.mem_filter.mp h).1
theorem row_asc (i : Nat) : (A.row i).Pairwise (· < ·) := List.Pairwise.filter _ List.pairwise_lt_range
theorem row_len (i : Nat) : (A.row i).length ≤ A.n := by
  have := List.length_filter_le (A.s i) (List.range A.n)
  rw [List.length_range] at this
  exact this
theorem blocks (h : A.n < 8) : ∀ m, m ≤ A.n → PairsOk A.n ((List.range m).flatMap fun i => (A.row i).map fun j => (i, j)) ∧ ((List.range m).flatMap fun i => (A.row i).map fun j => (i, j)).length ≤ m * A.n ∧ ∀ p ∈ ((List.range m).flatMap fun i => (A.row i).map fun j => (i, j)), p.1 < m
  | 0, _ => ⟨⟨by simp, by simp, by simp⟩, by simp, by simp⟩
  | m + 1, hm => by
    obtain ⟨⟨a1, a2, a3⟩, b, c⟩ := blocks h m (by omega)
    rw [List.range_succ, List.flatMap_append]
    have hs : ([m].flatMap fun i => (A.row i).map fun j => (i, j)) = (A.row m).map fun j => (m, j) := by simp
    rw [hs]
    have hl := row_len (A := A) m
    have hml : (m + 1) * A.n = m * A.n + A.n := by rw [Nat.add_mul, Nat.one_mul]
    have hlen : ((List.range m).flatMap fun i => (A.row i).map fun j => (i, j)).length + ((A.row m).map fun j => (m, j)).length ≤ (m + 1) * A.n := by
      rw [List.length_map, hml]
      omega
    have h49 : (m + 1) * A.n ≤ 7 * 7 := Nat.mul_le_mul (by omega) (by omega)
    refine ⟨⟨fun p hp => ?_, List.pairwise_append.mpr ⟨a2, ?_, fun p hp q hq => ?_⟩, by rw [List.length_append]; omega⟩, by rw [List.length_append]; exact hlen, fun p hp => ?_⟩
    · rcases List.mem_append.mp hp with hp | hp
      · exact a1 p hp
      · obtain ⟨j, hj, rfl⟩ := List.mem_map.mp hp
        exact ⟨by show m < A.n; omega, row_lt hj⟩
    · refine List.pairwise_map.mpr ((row_asc m).imp fun {x y} hxy => ?_)
      show m * 64 + x < m * 64 + y
      omega
    · obtain ⟨j, hj, rfl⟩ := List.mem_map.mp hq
      have h1 := c p hp
      have h2 := a1 p hp
      show p.1 * 64 + p.2 < m * 64 + j
      omega
    · rcases List.mem_append.mp hp with hp | hp
      · have := c p hp
        omega
      · obtain ⟨j, hj, rfl⟩ := List.mem_map.mp hp
        exact Nat.lt_succ_self m
theorem pairs_ok (h : A.n < 8) : PairsOk A.n A.pairs := (blocks h A.n (Nat.le_refl _)).1
theorem flat_one {α : Type} {X : List α} {i : Nat} : ∀ m, ((List.range m).flatMap fun j => if j = i then X else []) = if i < m then X else []
  | 0 => rfl
  | m + 1 => by
    rw [List.range_succ, List.flatMap_append, flat_one m]
    by_cases e : m = i
    · subst e
      simp
    · by_cases h : i < m
      · have : i < m + 1 := by omega
        simp [h, e, this]
      · have : ¬ i < m + 1 := by omega
        simp [h, e, this]
theorem rows_eq : rowsOf A.n A.pairs = (List.range A.n).map A.row := by
  unfold rowsOf pairs
  refine List.map_congr_left fun i hi => ?_
  have hi := List.mem_range.mp hi
  rw [List.filter_flatMap]
  have e : (fun k => ((A.row k).map fun j => (k, j)).filter fun p => p.1 == i) = fun k => if k = i then (A.row i).map fun j => (i, j) else [] := by
    funext k
    by_cases c : k = i
    · subst c
      have : (A.row k).filter (fun _ => true) = A.row k := List.filter_eq_self.mpr (fun _ _ => rfl)
      simp [List.filter_map, Function.comp_def, this]
    · simp [List.filter_map, Function.comp_def, c]
  rw [e, flat_one, if_pos hi]
  simp [Function.comp_def]
structure Good (A : Mo) : Prop where
  pos : 0 < A.n
  few : A.n < 8
  nd : (A.v.map (·.1)).Nodup
  asc : ∀ p ∈ A.v, p.2.Pairwise (· < ·) ∧ ∀ w ∈ p.2, w < A.n
  short : A.v.length < 100
theorem asc_len : ∀ {l : List Nat} {a n : Nat}, l.Pairwise (· < ·) → (∀ w ∈ l, a ≤ w ∧ w < n) → l.length + a ≤ max n a
  | [], a, n, _, _ => by simp; omega
  | x :: l, a, n, h, hb => by
    obtain ⟨h1, h2⟩ := List.pairwise_cons.mp h
    have hx := hb x (by simp)
    have := asc_len (a := x + 1) (n := n) h2 fun w hw => ⟨h1 w hw, (hb w (List.mem_cons_of_mem _ hw)).2⟩
    simp only [List.length_cons]
    omega
theorem vals_ok (h : A.Good) : ValsOk A.n A.v := ⟨h.nd, fun p hp => by
  obtain ⟨h1, h2⟩ := h.asc p hp
  have := asc_len (a := 0) h1 fun w hw => ⟨Nat.zero_le _, h2 w hw⟩
  have := h.few
  exact ⟨h2, by omega⟩, by have := h.short; omega⟩
theorem kept_eq (h : A.Good) : keptS A.v = A.kept := by
  unfold keptS kept
  refine (List.map_congr_left (g := id) fun p hp => ?_).trans (List.map_id _)
  show (p.1, srt p.2) = p
  rw [srt_self (h.asc p (List.mem_filter.mp hp).1).1]
def progD (A : Mo) : D := .ins "Model" ["_frame", "_seen", "_values"] [A.frD, .lst ((List.range A.n).map fun i => nsD (A.row i)), vD A.kept]
theorem prog_eq (h : A.Good) : modD A.n A.pairs A.v = A.progD := by
  unfold modD progD
  rw [rows_eq, kept_eq h, List.map_map]
  rfl
end Mo
def FrSpec (A : Mo) (f : List D → M D) : Prop := ∀ ro w, f [A.progD] ro w = .ok A.frD w
def SeenSpec (A : Mo) (f : List D → M D) : Prop := ∀ (i : Nat) ro w, i < A.n → f [A.progD, .int i] ro w = .ok (nsD (A.row i)) w
def TwSpec (A : Mo) (f : List D → M D) : Prop := ∀ ro w, f [A.progD] ro w = .ok (vD A.kept) w
def WoSpec (A : Mo) (f : List D → M D) : Prop := ∀ ro w, f [A.progD] ro w = .ok (nsD (List.range A.n)) w
section
variable {ro w : List D} {env : Env}
@[simp] theorem see_insD {c : Str} {ns : List Str} {xs : List D} : see ro w (.ins c ns xs) = .ins c ns xs := rfl
theorem fr_ok {A : Mo} : FrSpec A (runDef 1 1 h_Model_frame) := fun ro w => by
  have z := fld_ins (ro := ro) (w := w) (c := "Model") (f := "_frame") (ns := ["_frame", "_seen", "_values"]) (xs := [A.frD, .lst ((List.range A.n).map fun i => nsD (A.row i)), vD A.kept]) (x := A.frD) (by simp [fieldV])
  simp [x_def, h_Model_frame, Mo.progD, z]
theorem seen_ok {A : Mo} : SeenSpec A (runDef 2 2 h_Model_seen) := fun i ro w h => by
  have z := fld_ins (ro := ro) (w := w) (c := "Model") (f := "_seen") (ns := ["_frame", "_seen", "_values"]) (xs := [A.frD, .lst ((List.range A.n).map fun i => nsD (A.row i)), vD A.kept]) (x := .lst ((List.range A.n).map fun i => nsD (A.row i))) (by simp [fieldV, ofString_inj])
  simp [x_def, h_Model_seen, Mo.progD, z, atI_nat, h]
theorem wo_ok {A : Mo} (hM : A.n < 8) {cf : List D → M D} (hf : FrSpec A cf) : WoSpec A (runDef 1 1 (h_worlds_of cf)) := fun ro w => by
  have m : cMeth "Model" "frame" (fun ds => if ds.length = 1 then cf ds else M.no) (cVar 0) (cArgs []) [some A.progD] ro w = .ok A.frD w := by
    rw [x_meth (ns := ["_frame", "_seen", "_values"]) (xs := [A.frD, .lst ((List.range A.n).map fun i => nsD (A.row i)), vD A.kept]) (o := A.progD) (w1 := w) rfl rfl (by simp [ofString_inj])]
    simp [hf ro w]
  have a : cBin gIx (cMeth "Model" "frame" (fun ds => if ds.length = 1 then cf ds else M.no) (cVar 0) (cArgs [])) (cK (.int 0)) [some A.progD] ro w = .ok (.int A.n) w := by
    rw [x_bin, m]
    simp [Mo.frD]
  have z := lrg_at (fa := cBin gIx (cMeth "Model" "frame" (fun ds => if ds.length = 1 then cf ds else M.no) (cVar 0) (cArgs [])) (cK (.int 0))) a (by omega)
  rw [x_def]
  simp only [List.length_singleton, if_true, List.map_cons, List.map_nil, Nat.sub_self, List.replicate, List.append_nil]
  unfold h_worlds_of
  rw [x_ret, z]
  simp only [st_ok, fin_rt, Int.toNat_natCast, rngD_nat]
theorem tw_ok {A : Mo} (hM : A.Good) : TwSpec A (pureD (runDef 1 2 h_Model_true_worlds)) := fun ro w => by
  have hs : sizeLine = 16777216 := rfl
  have nd : (A.kept.map (·.1)).Nodup := by
    have : (A.kept.map (·.1)).Sublist (A.v.map (·.1)) := List.Sublist.map _ List.filter_sublist
    exact this.nodup hM.nd
  have kl : A.kept.length < 100 := by
    have := List.length_filter_le (fun p : Str × List Nat => !p.2.isEmpty) A.v
    have := hM.short
    unfold Mo.kept
    omega
  have dc : ∀ (v : List (Str × List Nat)), (∀ p ∈ v, p ∈ A.kept) → ∀ ro w, dcR (.nm 1) (cVar 1) (cCall (one gList) (cArgs [cDGet (cFld "Model" "_values" (cVar 0)) (cVar 1)])) [some A.progD, none] (vks v) ro w = .ok (v.map fun p => (.str p.1, nsD p.2)) w := by
    intro v
    induction v with
    | nil => intro _ ro w; rfl
    | cons p v ih =>
      intro hv ro w
      have z : ∀ w, gFld "Model" "_values" A.progD ro w = .ok (vD A.kept) w := fun w => fld_ins (by simp [fieldV, ofString_inj])
      have g : ∀ w, gDGet (vD A.kept) (.str p.1) ro w = .ok (nsD p.2) w := fun w => dget_eq (by simp) (dget_v nd (hv p (by simp)))
      show dcR _ _ _ _ (.str p.1 :: vks v) ro w = _
      unfold dcR
      have e : Tg.put (.nm 1) (.str p.1) [some A.progD, none] = some [some A.progD, some (.str p.1)] := rfl
      simp only [e, x_bind, x_calm, x_var, List.getElem?_cons_zero, List.getElem?_cons_succ, ofO_ss, calm_ok', an_ok, x_call, x_args, x_args0, x_dget, x_fld, show ∀ w, see ro w A.progD = A.progD from fun _ => rfl, z, show ∀ w, see ro w (vD A.kept) = vD A.kept from fun _ => rfl, g, x_one, see_lst, list_lst, ih (fun q hq => hv q (List.mem_cons_of_mem _ hq)) ro w, x_pure]
      rfl
  have ks : okKeys (A.kept.map fun p => (D.str p.1, nsD p.2)) = true := by
    unfold okKeys
    simp only [Bool.and_eq_true, decide_eq_true_eq, List.all_eq_true, List.map_map, List.length_map, hs]
    refine ⟨⟨?_, fun q hq => ?_⟩, by omega⟩
    · have : ((fun p : D × D => keyOf p.1) ∘ fun p : Str × List Nat => (D.str p.1, nsD p.2)) = (fun x : Str => some (Sum.inr x)) ∘ (·.1) := rfl
      rw [this, ← List.map_map]
      exact List.Pairwise.map _ (fun a b (h : a ≠ b) => by simpa using h) nd
    · obtain ⟨p, _, rfl⟩ := List.mem_map.mp hq
      rfl
  have kk : ∀ w, cKeysA "Model" 0 "_values" [some A.progD, none] (ro ++ w) [] = .ok (vks A.kept) [] := fun w => by
    unfold cKeysA
    simp [Mo.progD, fieldV, ofString_inj, vD_eq]
  have hl : (vks A.kept).length ≤ sizeLine := by simp [vks, hs]; omega
  have run : runDef 1 2 h_Model_true_worlds [A.progD] (ro ++ w) [] = .ok (.ref (ro ++ w).length) [vD A.kept] := by
    rw [x_def]
    simp only [List.length_singleton, if_true, List.map_cons, List.map_nil, Nat.reduceSub, List.replicate, List.cons_append, List.nil_append]
    unfold h_Model_true_worlds
    rw [x_ret]
    have : cDcA (.nm 1) [1] "Model" 0 "_values" (cVar 1) (cCall (one gList) (cArgs [cDGet (cFld "Model" "_values" (cVar 0)) (cVar 1)])) [some A.progD, none] (ro ++ w) [] = .ok (.ref (ro ++ w).length) [vD A.kept] := by
      show M.calm (cDc _ _ _ _ _ _) _ _ = _
      unfold cDc few
      simp only [x_calm, x_bind, kk w, an_ok, hl, if_true]
      rw [show wipeE ([some A.progD, none] : Env) [1] = [some A.progD, none] from rfl, dc A.kept (fun _ h => h)]
      simp only [an_ok]
      unfold kDic
      rw [if_pos ks]
      simp [vD_eq, vks, vxs, Function.comp_def]
    rw [this]
    rfl
  unfold pureD
  simp only [run]
  rw [show D.tell (told (ro ++ w).length [vD A.kept] 4) (.ref (ro ++ w).length) = some (vD A.kept) from by
    unfold D.tell
    have := told_at (b := (ro ++ w).length) (k := 3) (m := 0) (w := [vD A.kept]) rfl
    exact this.trans (tell_self _ under_v)]
end
end Fx
/-! Models: the worlds at which a formula is true. -/
namespace Fx
open PySem PySem.Spec L2
abbrev SOk (x : Str) : Prop := PyData.strOk x = true
def EvalSpec (A : Mo) (k : Nat) (f : List D → M D) : Prop := ∀ (φ : Fm) (F : Bool) (ro w : List D), φ.ht ≤ k → φ.Over SOk → f [A.progD, φ.toD, .bl F] ro w = .ok (nsD ((List.range A.n).filter (A.sem F φ))) w
section
variable {ro w : List D} {env : Env} {A : Mo}
theorem inD_ns {i : Nat} {l : List Nat} : inD (nD i) (nsD l) = some (l.contains i) := by
  have h1 : (l.map nD).all D.sc = true := by simp [D.sc]
  have h2 : ((l.map nD).any fun d => d.eqs (nD i)) = l.contains i := by
    induction l with
    | nil => rfl
    | cons a l ih =>
      simp only [List.map_cons, List.any_cons, eqs_int, ih (by simp [D.sc]), List.contains_cons]
      congr 1
      by_cases c : a = i
      · subst c
        simp
      · have c' : ¬ (a : Int) = i := by omega
        have c2 : ¬ i = a := fun e => c e.symm
        simp [c', c2]
  show (if (D.sc (nD i) && (l.map nD).all D.sc) = true then _ else _) = _
  rw [h1, h2]
  rfl
theorem in_ns {i : Nat} {l : List Nat} : gIn (nD i) (nsD l) ro w = .ok (.bl (l.contains i)) w := x_in inD_ns
theorem notIn_ns {i : Nat} {l : List Nat} : gNotIn (nD i) (nsD l) ro w = .ok (.bl (!l.contains i)) w := x_notIn inD_ns
theorem nsD_inj {l m : List Nat} : (nsD l = nsD m) ↔ l = m := by
  constructor
  · intro h
    have h : l.map nD = m.map nD := D.lst.inj h
    exact List.map_inj_right (fun a b e => by have := D.int.inj e; omega) |>.mp h
  · intro h; rw [h]
theorem ns_eqo {l : List Nat} : (nsD l).eqo = true := by
  have : nsD l = .lst ((l.map fun i : Nat => (i : Int)).map .int) := by rw [List.map_map]; rfl
  rw [this]
  exact eqo_ints
theorem eq_ns {l m : List Nat} : gEq (nsD l) (nsD m) ro w = .ok (.bl (decide (l = m))) w := by
  rw [eq_eqo ns_eqo ns_eqo]
  simp only [nsD_inj]
theorem cont_filt {n i : Nat} {p : Nat → Bool} (h : i < n) : ((List.range n).filter p).contains i = p i := by
  cases hp : p i <;> simp [hp, h]
theorem sz_ns {n : Nat} (h : n < 8) {l : List Nat} (hl : l.length ≤ n) : (l.map nD).length ≤ sizeLine := by
  have hs : sizeLine = 16777216 := rfl
  rw [List.length_map]
  omega
/-- [w for w in model.seen(v) if w not in L] == [] -/
theorem sub_test {cs : List D → M D} (hs : SeenSpec A cs) (hn : A.n < 8) {k i : Nat} {L : List Nat} (h0 : env[0]? = some (some A.progD)) (hk : env[k]? = some (some (nsD L))) (h6 : env[6]? = some (some (nD i))) (hk7 : k ≠ 7) (hl : env.length = 8) (hi : i < A.n) :
    cTest (cBin gEq (cComp (.nm 7) [7] (cSeq (cMeth "Model" "seen" (fun ds => if ds.length = 2 then cs ds else M.no) (cVar 0) (cArgs [cVar 6]))) (cTest (cBin gNotIn (cVar 7) (cVar k))) (cVar 7) kStill) (cLst (cArgs []))) env ro w = .ok (decide ((A.row i).filter (fun j => !L.contains j) = [])) w := by
  have m : cSeq (cMeth "Model" "seen" (fun ds => if ds.length = 2 then cs ds else M.no) (cVar 0) (cArgs [cVar 6])) env ro w = .ok ((A.row i).map nD) w := by
    rw [x_seqI, x_meth (ns := ["_frame", "_seen", "_values"]) (xs := [A.frD, .lst ((List.range A.n).map fun i => nsD (A.row i)), vD A.kept]) (o := A.progD) (w1 := w) (by simp [h0]) rfl (by simp [ofString_inj])]
    simp [h6, hs i ro w hi]
  have c := comp_filt (k := 7) (env := env.set 7 none) (ro := ro) (w := w) (ta := cTest (cBin gNotIn (cVar 7) (cVar k))) (fa := cVar 7) (h := nD) (g := nD) (p := fun j => !L.contains j) (l := A.row i)
    (fun j _ => by
      have e1 : ((env.set 7 none).set 7 (some (nD j)))[7]? = some (some (nD j)) := List.getElem?_set_self (by simp [hl])
      have e2 : ((env.set 7 none).set 7 (some (nD j)))[k]? = some (some (nsD L)) := by
        rw [List.getElem?_set_ne (Ne.symm hk7), List.getElem?_set_ne (Ne.symm hk7), hk]
      rw [x_test, x_bin]
      simp only [x_var, e1, e2, ofO_ss, an_ok, see_int, see_lst, notIn_ns, bool_bl])
    (fun j _ _ => by
      have e1 : ((env.set 7 none).set 7 (some (nD j)))[7]? = some (some (nD j)) := List.getElem?_set_self (by simp [hl])
      simp only [x_var, e1, ofO_ss])
  rw [x_test, x_bin, x_comp, m]
  simp only [an_ok, sz_ns hn (Mo.row_len i), if_true]
  rw [show wipeE env [7] = env.set 7 none from rfl, c]
  simp only [an_ok, x_still, x_lst, x_args0]
  rw [show (D.lst (((A.row i).filter fun j => !L.contains j).map nD)) = nsD ((A.row i).filter fun j => !L.contains j) from rfl, show (D.lst []) = nsD [] from rfl]
  simp only [see_lst, eq_ns, an_ok, bool_bl]
theorem wo_it {cw : List D → M D} (hw : WoSpec A cw) (h0 : env[0]? = some (some A.progD)) : cSeq (cCall (fun ds => if ds.length = 1 then cw ds else M.no) (cArgs [cVar 0])) env ro w = .ok ((List.range A.n).map nD) w := by
  simp [h0, hw ro w]
/-- [v for v in worlds_of(model) if ..] -/
theorem wo_comp {cw : List D → M D} (hw : WoSpec A cw) (hn : A.n < 8) {ta : Env → M Bool} {p : Nat → Bool} (h0 : env[0]? = some (some A.progD)) (hl : env.length = 8) (ht : ∀ i, i < A.n → ta ((env.set 6 none).set 6 (some (nD i))) ro w = .ok (p i) w) :
    cComp (.nm 6) [6] (cSeq (cCall (fun ds => if ds.length = 1 then cw ds else M.no) (cArgs [cVar 0]))) ta (cVar 6) kStill env ro w = .ok (nsD ((List.range A.n).filter p)) w := by
  have c := comp_filt (k := 6) (env := env.set 6 none) (ro := ro) (w := w) (ta := ta) (fa := cVar 6) (h := nD) (g := nD) (p := p) (l := List.range A.n) (fun i hi => ht i (List.mem_range.mp hi))
    (fun j _ _ => by
      have e1 : ((env.set 6 none).set 6 (some (nD j)))[6]? = some (some (nD j)) := List.getElem?_set_self (by simp [hl])
      simp only [x_var, e1, ofO_ss])
  rw [x_comp, wo_it hw h0]
  simp only [an_ok, sz_ns hn (Nat.le_of_eq List.length_range), if_true]
  rw [show wipeE env [6] = env.set 6 none from rfl, c]
  rfl
theorem and_comp {L1 L2 : List Nat} (hl : L1.length ≤ 1000) (h3 : env[3]? = some (some (nsD L1))) (h4 : env[4]? = some (some (nsD L2))) (hlen : env.length = 8) :
    cComp (.nm 6) [6] (cSeq (cVar 3)) (cTest (cBin gIn (cVar 6) (cVar 4))) (cVar 6) kStill env ro w = .ok (nsD (L1.filter L2.contains)) w := by
  have hs : sizeLine = 16777216 := rfl
  have e1 : ∀ j, ((env.set 6 none).set 6 (some (nD j)))[6]? = some (some (nD j)) := fun j => List.getElem?_set_self (by simp [hlen])
  have c := comp_filt (k := 6) (env := env.set 6 none) (ro := ro) (w := w) (ta := cTest (cBin gIn (cVar 6) (cVar 4))) (fa := cVar 6) (h := nD) (g := nD) (p := L2.contains) (l := L1) (fun j _ => by
      have e2 : ((env.set 6 none).set 6 (some (nD j)))[4]? = some (some (nsD L2)) := by
        rw [List.getElem?_set_ne (by decide), List.getElem?_set_ne (by decide), h4]
      rw [x_test, x_bin]
      simp only [x_var, e1, e2, ofO_ss, an_ok, see_int, see_lst, in_ns, bool_bl])
    (fun j _ _ => by simp only [x_var, e1, ofO_ss])
  have hz : (L1.map nD).length ≤ sizeLine := by rw [List.length_map]; omega
  rw [x_comp]
  simp only [x_seqI, x_var, h3, ofO_ss, an_ok, seqV_lst, hz, if_true]
  rw [show wipeE env [6] = env.set 6 none from rfl, c]
  rfl
end
/-! ### where a name is true -/
theorem lk_cons {x y : Str} {m : List Nat} {v : List (Str × List Nat)} : ((y, m) :: v : List (Str × List Nat)).lookup x = if x = y then some m else v.lookup x := by
  rw [List.lookup_cons]
  by_cases e : x = y
  · rw [if_pos e, beq_iff_eq.mpr e]
  · rw [if_neg e, beq_eq_false_iff_ne.mpr e]
theorem dget_lk {v : List (Str × List Nat)} {x : Str} : dget (vks v) (vxs v) (.str x) = (v.lookup x).map nsD := by
  induction v with
  | nil => rfl
  | cons p v ih =>
    obtain ⟨y, m⟩ := p
    show (if keyOf (.str y) = keyOf (.str x) then some (nsD m) else dget (vks v) (vxs v) (.str x)) = _
    rw [lk_cons]
    by_cases e : x = y
    · subst e
      simp
    · have e' : ¬ y = x := fun z => e z.symm
      rw [ih]
      simp [e, e']
theorem lk_not {v : List (Str × List Nat)} {x : Str} (h : x ∉ v.map (·.1)) : v.lookup x = none := by
  induction v with
  | nil => rfl
  | cons p v ih =>
    obtain ⟨y, m⟩ := p
    simp only [List.map_cons, List.mem_cons, not_or] at h
    rw [lk_cons, if_neg h.1]
    exact ih h.2
theorem lk_mem {v : List (Str × List Nat)} {x : Str} {l : List Nat} (h : v.lookup x = some l) : (x, l) ∈ v := by
  induction v with
  | nil => cases h
  | cons p v ih =>
    obtain ⟨y, m⟩ := p
    rw [lk_cons] at h
    by_cases e : x = y
    · subst e
      simp at h
      subst h
      simp
    · rw [if_neg e] at h
      exact List.mem_cons_of_mem _ (ih h)
theorem lk_kept {v : List (Str × List Nat)} {x : Str} (nd : (v.map (·.1)).Nodup) : ((v.filter fun p => !p.2.isEmpty).lookup x).getD [] = (v.lookup x).getD [] := by
  induction v with
  | nil => rfl
  | cons p v ih =>
    obtain ⟨y, m⟩ := p
    rw [List.map_cons, List.nodup_cons] at nd
    rw [lk_cons, List.filter_cons]
    by_cases e : x = y
    · subst e
      have hn : (v.filter fun p => !p.2.isEmpty).lookup x = none := lk_not fun hm => nd.1 (by
        obtain ⟨q, hq, e⟩ := List.mem_map.mp hm
        show x ∈ _
        rw [← e]
        exact List.mem_map_of_mem (f := fun p : Str × List Nat => p.1) (List.mem_filter.mp hq).1)
      cases m with
      | nil => simp [hn]
      | cons a l => simp [lk_cons]
    · rw [if_neg e, ← ih nd.2]
      cases m with
      | nil => simp
      | cons a l => simp [lk_cons, e]
theorem asc_filt {l : List Nat} {n : Nat} (h : l.Pairwise (· < ·)) (hb : ∀ i ∈ l, i < n) : (List.range n).filter l.contains = l := by
  refine asc_eq (f := fun i : Nat => (i : Int)) ((List.pairwise_lt_range.filter _).imp fun h => by simpa using h) (h.imp fun h => by simpa using h) fun z => ?_
  simp only [List.mem_filter, List.mem_range, List.contains_iff_mem]
  exact ⟨fun h => h.2, fun h => ⟨hb z h, h⟩⟩
theorem at_good {A : Mo} (h : A.Good) (x : Str) : (List.range A.n).filter (A.at' x).contains = A.at' x := by
  unfold Mo.at'
  cases e : A.v.lookup x with
  | none => simp
  | some l =>
    obtain ⟨h1, h2⟩ := h.asc _ (lk_mem e)
    exact asc_filt h1 h2
theorem sub_sem {A : Mo} {i : Nat} {p : Nat → Bool} : decide ((A.row i).filter (fun j => !((List.range A.n).filter p).contains j) = []) = (List.range A.n).all fun u => !(A.s i u && !p u) := by
  rw [Bool.eq_iff_iff, decide_eq_true_eq, List.filter_eq_nil_iff, List.all_eq_true]
  unfold Mo.row
  constructor
  · intro h u hu
    have hu' := List.mem_range.mp hu
    by_cases c : A.s i u = true
    · have := h u (List.mem_filter.mpr ⟨hu, c⟩)
      rw [cont_filt hu'] at this
      simp [c] at this ⊢
      exact this
    · simp [c]
  · intro h u hu
    obtain ⟨h1, h2⟩ := List.mem_filter.mp hu
    have := h u h1
    rw [cont_filt (List.mem_range.mp h1)]
    simp [h2] at this ⊢
    exact this
theorem eval_ok {A : Mo} (hA : A.Good) {ct ce cw cs : List D → M D} {k : Nat} (ht : TwSpec A ct) (he : EvalSpec A k ce) (hw : WoSpec A cw) (hs : SeenSpec A cs) : EvalSpec A (k + 1) (runDef 3 8 (h_evaluated ct ce cw cs)) := by
  intro φ F ro w hk ho
  have hn := hA.few
  have z8 : ∀ {l : List Nat} {p : Nat → Bool}, l = (List.range A.n).filter p → l.length ≤ 1000 := fun {l p} h => by
    have := List.length_filter_le p (List.range A.n)
    rw [h]
    rw [List.length_range] at this
    omega
  cases φ with
  | fal => simp [x_def, h_evaluated, Fm.tag, eq_str, ofString_inj, Mo.sem]
  | var x =>
    have g : cDGetD (cMeth "Model" "true_worlds" (fun ds => if ds.length = 1 then ct ds else M.no) (cVar 0) (cArgs [])) (cBin gIx (cVar 1) (cK (.int 1))) (cLst (cArgs [])) [some A.progD, some (Fm.var x).toD, some (.bl F), none, none, none, none, none] ro w = .ok (nsD ((List.range A.n).filter (A.sem F (.var x)))) w := by
      have m : cMeth "Model" "true_worlds" (fun ds => if ds.length = 1 then ct ds else M.no) (cVar 0) (cArgs []) [some A.progD, some (Fm.var x).toD, some (.bl F), none, none, none, none, none] ro w = .ok (vD A.kept) w := by
        rw [x_meth (ns := ["_frame", "_seen", "_values"]) (xs := [A.frD, .lst ((List.range A.n).map fun i => nsD (A.row i)), vD A.kept]) (o := A.progD) (w1 := w) rfl rfl (by simp [ofString_inj])]
        simp [ht ro w]
      have e : (dget (vks A.kept) (vxs A.kept) (.str x)).getD (.lst []) = nsD ((List.range A.n).filter (A.sem F (.var x))) := by
        have h1 := lk_kept (x := x) hA.nd
        have h2 := at_good hA x
        have h3 : (List.range A.n).filter (A.sem F (.var x)) = (List.range A.n).filter (A.at' x).contains := rfl
        rw [h3, h2, dget_lk]
        unfold Mo.at'
        rw [← h1]
        show (Option.map nsD (A.kept.lookup x)).getD (.lst []) = nsD ((A.kept.lookup x).getD [])
        cases A.kept.lookup x <;> rfl
      rw [x_dgetD, m]
      simp only [an_ok, vD_eq, see_dic, isDic_dic, if_true]
      have d := dgetD_eq (ro := ro) (w := w) (ks := vks A.kept) (xs := vxs A.kept) (k := .str x) (z := .lst []) rfl
      simp only [x_bin, x_var, x_k, List.getElem?_cons_zero, List.getElem?_cons_succ, ofO_ss, an_ok, see_fm, see_int, Fm.toD, see_tup, ix_tup, atI_lit, od_s, x_lst, x_args0, vD_eq, see_dic, d, e]
    simp only [x_def, h_evaluated, List.length_cons, List.length_nil, Nat.zero_add, Nat.reduceAdd, if_true, List.map_cons, List.map_nil, Nat.reduceSub, List.replicate, List.cons_append, List.nil_append, x_seq, x_ifS, x_test, x_bin, x_var, x_k, List.getElem?_cons_zero, List.getElem?_cons_succ, ofO_ss, an_ok, see_fm, see_str, see_int, Fm.ix0, Fm.tag, eq_str ok_lit ok_lit, bool_bl, st_ok, ofString_inj, decide_true, x_ret, g, oan_rt, fin_rt]
  | imp a b =>
    simp only [Fm.ht] at hk
    have r1 := fun w => he a F ro w (by omega) ho.1
    have r2 := fun w => he b F ro w (by omega) ho.2
    have i1 : ∀ w, gIx (Fm.imp a b).toD (.int 1) ro w = .ok a.toD w := fun w => by simp [Fm.toD]
    have i2 : ∀ w, gIx (Fm.imp a b).toD (.int 2) ro w = .ok b.toD w := fun w => by simp [Fm.toD]
    have c := wo_comp (ro := ro) (w := w) (env := [some A.progD, some (Fm.imp a b).toD, some (.bl F), some (nsD ((List.range A.n).filter (A.sem F a))), some (nsD ((List.range A.n).filter (A.sem F b))), none, none, none]) hw hn (ta := cOrT (cTest (cBin gNotIn (cVar 6) (cVar 3))) (cTest (cBin gIn (cVar 6) (cVar 4)))) (p := fun i => !(A.sem F a i && !A.sem F b i)) rfl rfl fun i hi => by
      simp only [List.set_cons_succ, List.set_cons_zero, x_orT, x_test, x_bin, x_var, List.getElem?_cons_zero, List.getElem?_cons_succ, ofO_ss, an_ok, see_int, see_lst, in_ns, notIn_ns, bool_bl, cont_filt hi]
      cases A.sem F a i <;> cases A.sem F b i <;> rfl
    cases F with
    | false =>
      have e : (fun i => !(A.sem false a i && !A.sem false b i)) = A.sem false (.imp a b) := rfl
      rw [e] at c
      simp only [x_def, h_evaluated, List.length_cons, List.length_nil, Nat.zero_add, Nat.reduceAdd, if_true, List.map_cons, List.map_nil, Nat.reduceSub, List.replicate, List.cons_append, List.nil_append, x_seq, x_ifS, x_test, x_bin, x_var, x_k, List.getElem?_cons_zero, List.getElem?_cons_succ, ofO_ss, an_ok, see_fm, see_str, see_int, Fm.ix0, Fm.tag, eq_str ok_lit ok_lit, bool_bl, st_ok, ofString_inj, String.reduceEq, decide_true, decide_false, Bool.false_eq_true, if_false, x_nil, oan_nx, x_set, x_call, x_args, x_args0, i1, i2, r1, r2, List.set_cons_succ, List.set_cons_zero, x_notT, x_tru, see_bl, truth_bl, Bool.not_false, x_ret, c, oan_rt, fin_rt]
    | true =>
      have c2 := wo_comp (ro := ro) (w := w) (env := [some A.progD, some (Fm.imp a b).toD, some (.bl true), some (nsD ((List.range A.n).filter (A.sem true a))), some (nsD ((List.range A.n).filter (A.sem true b))), some (nsD ((List.range A.n).filter fun i => !(A.sem true a i && !A.sem true b i))), none, none]) hw hn (ta := cTest (cBin gEq (cComp (.nm 7) [7] (cSeq (cMeth "Model" "seen" (fun ds => if ds.length = 2 then cs ds else M.no) (cVar 0) (cArgs [cVar 6]))) (cTest (cBin gNotIn (cVar 7) (cVar 5))) (cVar 7) kStill) (cLst (cArgs [])))) (p := A.sem true (.imp a b)) rfl rfl fun i hi => by
        rw [sub_test hs hn (k := 5) (i := i) (L := (List.range A.n).filter fun i => !(A.sem true a i && !A.sem true b i)) rfl rfl rfl (by decide) rfl hi, sub_sem]
        congr 1
        show _ = (List.range A.n).all fun u => !(A.s i u && (A.sem true a u && !A.sem true b u))
        congr 1
        funext u
        rw [Bool.not_not]
      simp only [x_def, h_evaluated, List.length_cons, List.length_nil, Nat.zero_add, Nat.reduceAdd, if_true, List.map_cons, List.map_nil, Nat.reduceSub, List.replicate, List.cons_append, List.nil_append, x_seq, x_ifS, x_test, x_bin, x_var, x_k, List.getElem?_cons_zero, List.getElem?_cons_succ, ofO_ss, an_ok, see_fm, see_str, see_int, Fm.ix0, Fm.tag, eq_str ok_lit ok_lit, bool_bl, st_ok, ofString_inj, String.reduceEq, decide_true, decide_false, Bool.false_eq_true, if_false, x_nil, oan_nx, x_set, x_call, x_args, x_args0, i1, i2, r1, r2, List.set_cons_succ, List.set_cons_zero, x_notT, x_tru, see_bl, truth_bl, Bool.not_true, c, x_ret, c2, oan_rt, fin_rt]
  | and a b =>
    simp only [Fm.ht] at hk
    have r1 := fun w => he a F ro w (by omega) ho.1
    have r2 := fun w => he b F ro w (by omega) ho.2
    have i1 : ∀ w, gIx (Fm.and a b).toD (.int 1) ro w = .ok a.toD w := fun w => by simp [Fm.toD]
    have i2 : ∀ w, gIx (Fm.and a b).toD (.int 2) ro w = .ok b.toD w := fun w => by simp [Fm.toD]
    have c := and_comp (ro := ro) (w := w) (env := [some A.progD, some (Fm.and a b).toD, some (.bl F), some (nsD ((List.range A.n).filter (A.sem F a))), some (nsD ((List.range A.n).filter (A.sem F b))), none, none, none]) (z8 rfl) rfl rfl rfl
    have e : ((List.range A.n).filter (A.sem F a)).filter ((List.range A.n).filter (A.sem F b)).contains = (List.range A.n).filter (A.sem F (.and a b)) := by
      rw [List.filter_filter]
      refine List.filter_congr fun i hi => ?_
      rw [cont_filt (List.mem_range.mp hi), Bool.and_comm]
      rfl
    rw [e] at c
    simp only [x_def, h_evaluated, List.length_cons, List.length_nil, Nat.zero_add, Nat.reduceAdd, if_true, List.map_cons, List.map_nil, Nat.reduceSub, List.replicate, List.cons_append, List.nil_append, x_seq, x_ifS, x_test, x_bin, x_var, x_k, List.getElem?_cons_zero, List.getElem?_cons_succ, ofO_ss, an_ok, see_fm, see_str, see_int, Fm.ix0, Fm.tag, eq_str ok_lit ok_lit, bool_bl, st_ok, ofString_inj, String.reduceEq, decide_true, decide_false, Bool.false_eq_true, if_false, x_nil, oan_nx, x_set, x_call, x_args, x_args0, i1, i2, r1, r2, List.set_cons_succ, List.set_cons_zero, x_ret, c, oan_rt, fin_rt]
  | or a b =>
    simp only [Fm.ht] at hk
    have r1 := fun w => he a F ro w (by omega) ho.1
    have r2 := fun w => he b F ro w (by omega) ho.2
    have i1 : ∀ w, gIx (Fm.or a b).toD (.int 1) ro w = .ok a.toD w := fun w => by simp [Fm.toD]
    have i2 : ∀ w, gIx (Fm.or a b).toD (.int 2) ro w = .ok b.toD w := fun w => by simp [Fm.toD]
    have c := wo_comp (ro := ro) (w := w) (env := [some A.progD, some (Fm.or a b).toD, some (.bl F), some (nsD ((List.range A.n).filter (A.sem F a))), some (nsD ((List.range A.n).filter (A.sem F b))), none, none, none]) hw hn (ta := cOrT (cTest (cBin gIn (cVar 6) (cVar 3))) (cTest (cBin gIn (cVar 6) (cVar 4)))) (p := A.sem F (.or a b)) rfl rfl fun i hi => by
      have e1 : A.sem F (.or a b) i = (A.sem F a i || A.sem F b i) := rfl
      rw [e1]
      simp only [List.set_cons_succ, List.set_cons_zero, x_orT, x_test, x_bin, x_var, List.getElem?_cons_zero, List.getElem?_cons_succ, ofO_ss, an_ok, see_int, see_lst, in_ns, bool_bl, cont_filt hi]
      cases A.sem F a i <;> rfl
    simp only [x_def, h_evaluated, List.length_cons, List.length_nil, Nat.zero_add, Nat.reduceAdd, if_true, List.map_cons, List.map_nil, Nat.reduceSub, List.replicate, List.cons_append, List.nil_append, x_seq, x_ifS, x_test, x_bin, x_var, x_k, List.getElem?_cons_zero, List.getElem?_cons_succ, ofO_ss, an_ok, see_fm, see_str, see_int, Fm.ix0, Fm.tag, eq_str ok_lit ok_lit, bool_bl, st_ok, ofString_inj, String.reduceEq, decide_true, decide_false, Bool.false_eq_true, if_false, x_nil, oan_nx, x_set, x_call, x_args, x_args0, i1, i2, r1, r2, List.set_cons_succ, List.set_cons_zero, x_ret, c, oan_rt, fin_rt]
  | box a =>
    simp only [Fm.ht] at hk
    have r1 := fun w => he a F ro w (by omega) ho
    have i1 : ∀ w, gIx (Fm.box a).toD (.int 1) ro w = .ok a.toD w := fun w => by simp [Fm.toD]
    have c := wo_comp (ro := ro) (w := w) (env := [some A.progD, some (Fm.box a).toD, some (.bl F), some (nsD ((List.range A.n).filter (A.sem F a))), none, none, none, none]) hw hn (ta := cTest (cBin gEq (cComp (.nm 7) [7] (cSeq (cMeth "Model" "seen" (fun ds => if ds.length = 2 then cs ds else M.no) (cVar 0) (cArgs [cVar 6]))) (cTest (cBin gNotIn (cVar 7) (cVar 3))) (cVar 7) kStill) (cLst (cArgs [])))) (p := A.sem F (.box a)) rfl rfl fun i hi => by
      rw [sub_test hs hn (k := 3) (i := i) (L := (List.range A.n).filter (A.sem F a)) rfl rfl rfl (by decide) rfl hi]
      congr 1
      exact sub_sem
    simp only [x_def, h_evaluated, List.length_cons, List.length_nil, Nat.zero_add, Nat.reduceAdd, if_true, List.map_cons, List.map_nil, Nat.reduceSub, List.replicate, List.cons_append, List.nil_append, x_seq, x_ifS, x_test, x_bin, x_var, x_k, List.getElem?_cons_zero, List.getElem?_cons_succ, ofO_ss, an_ok, see_fm, see_str, see_int, Fm.ix0, Fm.tag, eq_str ok_lit ok_lit, bool_bl, st_ok, ofString_inj, String.reduceEq, decide_true, decide_false, Bool.false_eq_true, if_false, x_nil, oan_nx, x_set, x_call, x_args, x_args0, i1, r1, List.set_cons_succ, List.set_cons_zero, x_ret, c, oan_rt, fin_rt]
end Fx
/-! Models: what the law says of them. -/
namespace Fx
open PySem PySem.Spec L2
def h_law_true (c_law_true : List D → M D) : SF :=
  sSeq (sSet 4 (cBin gIx (cVar 0) (cK (.int 0))))
  (sSeq (sIf (cTest (cBin gEq (cBin gIx (cVar 1) (cK (.int 0))) (cK (.str "falsum")))) (sRet (cK (.bl false))) (sNil))
  (sSeq (sIf (cTest (cBin gEq (cBin gIx (cVar 1) (cK (.int 0))) (cK (.str "var")))) (sRet (cBin gIn (cVar 2) (cDGetD (cBin gIx (cVar 0) (cK (.int 1))) (cBin gIx (cVar 1) (cK (.int 1))) (cLst (cArgs []))))) (sNil))
  (sSeq (sIf (cTest (cBin gEq (cBin gIx (cVar 1) (cK (.int 0))) (cK (.str "and")))) (sRet (cAnd (cCall (fun ds => if ds.length = 4 then c_law_true ds else M.no) (cArgs [cVar 0, cBin gIx (cVar 1) (cK (.int 1)), cVar 2, cVar 3])) (cCall (fun ds => if ds.length = 4 then c_law_true ds else M.no) (cArgs [cVar 0, cBin gIx (cVar 1) (cK (.int 2)), cVar 2, cVar 3])))) (sNil))
  (sSeq (sIf (cTest (cBin gEq (cBin gIx (cVar 1) (cK (.int 0))) (cK (.str "or")))) (sRet (cOr (cCall (fun ds => if ds.length = 4 then c_law_true ds else M.no) (cArgs [cVar 0, cBin gIx (cVar 1) (cK (.int 1)), cVar 2, cVar 3])) (cCall (fun ds => if ds.length = 4 then c_law_true ds else M.no) (cArgs [cVar 0, cBin gIx (cVar 1) (cK (.int 2)), cVar 2, cVar 3])))) (sNil))
  (sSeq (sIf (cTest (cBin gEq (cBin gIx (cVar 1) (cK (.int 0))) (cK (.str "box")))) (sSeq (sFor (.nm 5) (cRng1 (cArgs [cCall (one gLen) (cArgs [cVar 4])])) (sIf (cAndT (cTru (cBin gIx (cBin gIx (cVar 4) (cVar 2)) (cVar 5))) (cNotT (cTru (cCall (fun ds => if ds.length = 4 then c_law_true ds else M.no) (cArgs [cVar 0, cBin gIx (cVar 1) (cK (.int 1)), cVar 5, cVar 3]))))) (sRet (cK (.bl false))) (sNil)))
  (sRet (cK (.bl true)))) (sNil))
  (sSeq (sFor (.nm 5) (cRng1 (cArgs [cCall (one gLen) (cArgs [cVar 4])])) (sIf (cOrT (cAndT (cTest (cBin gEq (cVar 5) (cVar 2))) (cNotT (cTru (cVar 3)))) (cAndT (cTru (cVar 3)) (cTru (cBin gIx (cBin gIx (cVar 4) (cVar 2)) (cVar 5))))) (sIf (cAndT (cTru (cCall (fun ds => if ds.length = 4 then c_law_true ds else M.no) (cArgs [cVar 0, cBin gIx (cVar 1) (cK (.int 1)), cVar 5, cVar 3]))) (cNotT (cTru (cCall (fun ds => if ds.length = 4 then c_law_true ds else M.no) (cArgs [cVar 0, cBin gIx (cVar 1) (cK (.int 2)), cVar 5, cVar 3]))))) (sRet (cK (.bl false))) (sNil)) (sNil)))
  (sRet (cK (.bl true)))))))))
def h_law_where (c_law_true : List D → M D) : SF :=
  sRet (cComp (.nm 3) [3] (cRng1 (cArgs [cCall (one gLen) (cArgs [cBin gIx (cVar 0) (cK (.int 0))])])) (cTru (cCall (fun ds => if ds.length = 4 then c_law_true ds else M.no) (cArgs [cVar 0, cVar 1, cVar 3, cVar 2]))) (cVar 3) kStill)
def h_law_grid : SF :=
  sSeq (sSet 2 (cLstM (cArgs [])))
  (sSeq (sFor (.nm 3) (cRng1 (cArgs [cVar 0])) (sFor (.nm 4) (cRng1 (cArgs [cVar 1])) (sExpr (cMl gAppend (cVar 2) (cArgs [cTup (cArgs [cVar 3, cVar 4])])))))
  (sRet (cVar 2)))
def h_law_framed (c_law_grid : List D → M D) : SF :=
  sSeq (sSet 1 (cCall (fun ds => if ds.length = 2 then c_law_grid ds else M.no) (cArgs [cCall (one gLen) (cArgs [cVar 0]), cCall (one gLen) (cArgs [cVar 0])])))
  (sRet (cTup (cArgs [cCall (one gLen) (cArgs [cVar 0]), cCall (one gTuple) (cArgs [cComp (.nm 2) [2] (cSeq (cVar 1)) (cTru (cBin gIx (cBin gIx (cVar 0) (cBin gIx (cVar 2) (cK (.int 0)))) (cBin gIx (cVar 2) (cK (.int 1))))) (cVar 2) kStill])])))
def h_law_program_model (c_law_framed : List D → M D) : SF :=
  sSeq (sSet 1 (cDNew))
  (sSeq (sForX (.nm 2) 0 1 (sDPutF (cVar 1) (cVar 2) (cCall (one gList) (cArgs [cDGet (cBin gIx (cVar 0) (cK (.int 1))) (cVar 2)]))))
  (sRet (cTup (cArgs [cCall (fun ds => if ds.length = 1 then c_law_framed ds else M.no) (cArgs [cBin gIx (cVar 0) (cK (.int 0))]), cVar 1]))))
def TrueSpec (A : Mo) (k : Nat) (f : List D → M D) : Prop := ∀ (φ : Fm) (F : Bool) (i : Nat) (ro w : List D), φ.ht ≤ k → φ.Over SOk → i < A.n → f [A.lawD, φ.toD, .int i, .bl F] ro w = .ok (.bl (A.sem F φ i)) w
def seenD (A : Mo) : D := .lst ((List.range A.n).map fun i => .lst ((List.range A.n).map fun j => .bl (A.s i j)))
section
variable {ro w : List D} {env : Env} {A : Mo}
theorem for_ret {α : Type} {h : α → D} {k : Nat} {s : SF} {p : α → Bool} {d : D} : ∀ {l : List α} (e0 : Option D), (∀ a ∈ l, s (env.set k (some (h a))) ro w = if p a = true then .go (.rt d) (env.set k (some (h a))) w else .go .nx (env.set k (some (h a))) w) →
    ∃ e', forL (.nm k) s (l.map h) (env.set k e0) ro w = if l.any p = true then .go (.rt d) (env.set k e') w else .go .nx (env.set k e') w
  | [], e0, _ => ⟨e0, rfl⟩
  | a :: l, e0, hs => by
    have h1 := hs a (by simp)
    obtain ⟨e', ih⟩ := for_ret (l := l) (some (h a)) fun b hb => hs b (List.mem_cons_of_mem _ hb)
    rw [List.map_cons, for_nm, List.set_set, h1]
    cases q : p a with
    | true => exact ⟨some (h a), by simp [q]⟩
    | false => exact ⟨e', by simp [q, ih]⟩
theorem seen_i {i : Nat} (h : i < A.n) : gIx (seenD A) (.int i) ro w = .ok (.lst ((List.range A.n).map fun j => .bl (A.s i j))) w := by
  unfold seenD
  simp [atI_nat, h]
theorem seen_j {i j : Nat} (h : j < A.n) : gIx (.lst ((List.range A.n).map fun j => D.bl (A.s i j))) (.int j) ro w = .ok (.bl (A.s i j)) w := by
  simp [atI_nat, h]
theorem law_0 : gIx A.lawD (.int 0) ro w = .ok (seenD A) w := by simp [Mo.lawD, seenD]
theorem law_1 : gIx A.lawD (.int 1) ro w = .ok (vD A.v) w := by simp [Mo.lawD]
theorem len_seen : gLen (seenD A) ro w = .ok (.int A.n) w := by simp [seenD]
theorem see_seen : see ro w (seenD A) = seenD A := rfl
theorem see_law : see ro w A.lawD = A.lawD := rfl
theorem rng_n (h : A.n < 8) : gRng1 [.int A.n] ro w = .ok ((List.range A.n).map nD) w := by
  rw [rng1_nat (by omega), rngD_nat]
theorem true_ok (hA : A.n < 8) {ct : List D → M D} {k : Nat} (ih : TrueSpec A k ct) : TrueSpec A (k + 1) (runDef 4 6 (h_law_true ct)) := by
  intro φ F i ro w hk ho hi
  cases φ with
  | fal =>
    simp only [x_def, h_law_true, List.length_cons, List.length_nil, Nat.zero_add, Nat.reduceAdd, if_true, List.map_cons, List.map_nil, Nat.reduceSub, List.replicate, List.cons_append, List.nil_append, x_seq, x_set, x_ifS, x_test, x_bin, x_var, x_k, List.getElem?_cons_zero, List.getElem?_cons_succ, ofO_ss, an_ok, see_law, law_0, List.set_cons_succ, List.set_cons_zero, oan_nx, see_fm, see_str, see_int, Fm.ix0, Fm.tag, eq_str ok_lit ok_lit, bool_bl, st_ok, ofString_inj, decide_true, x_ret, oan_rt, fin_rt]
    rfl
  | var x =>
    have d := fun (ro w : List D) => dgetD_eq (ro := ro) (w := w) (ks := vks A.v) (xs := vxs A.v) (k := .str x) (z := .lst []) rfl
    have e : (dget (vks A.v) (vxs A.v) (.str x)).getD (.lst []) = nsD (A.at' x) := by
      rw [dget_lk]
      unfold Mo.at'
      cases A.v.lookup x <;> rfl
    have i1 : ∀ w, gIx (Fm.var x).toD (.int 1) ro w = .ok (.str x) w := fun w => by simp [Fm.toD]
    simp only [x_def, h_law_true, List.length_cons, List.length_nil, Nat.zero_add, Nat.reduceAdd, if_true, List.map_cons, List.map_nil, Nat.reduceSub, List.replicate, List.cons_append, List.nil_append, x_seq, x_set, x_ifS, x_test, x_bin, x_var, x_k, List.getElem?_cons_zero, List.getElem?_cons_succ, ofO_ss, an_ok, see_law, law_0, law_1, i1, List.set_cons_succ, List.set_cons_zero, oan_nx, see_fm, see_str, see_int, Fm.ix0, Fm.tag, eq_str ok_lit ok_lit, bool_bl, st_ok, ofString_inj, String.reduceEq, decide_true, decide_false, Bool.false_eq_true, if_false, x_nil, x_ret, x_dgetD, vD_eq, see_dic, isDic_dic, x_lst, x_args0, d, e, see_lst, in_ns, oan_rt, fin_rt]
    rfl
  | and a b =>
    simp only [Fm.ht] at hk
    have r1 := fun w => ih a F i ro w (by omega) ho.1 hi
    have r2 := fun w => ih b F i ro w (by omega) ho.2 hi
    have i1 : ∀ w, gIx (Fm.and a b).toD (.int 1) ro w = .ok a.toD w := fun w => by simp [Fm.toD]
    have i2 : ∀ w, gIx (Fm.and a b).toD (.int 2) ro w = .ok b.toD w := fun w => by simp [Fm.toD]
    simp only [x_def, h_law_true, List.length_cons, List.length_nil, Nat.zero_add, Nat.reduceAdd, if_true, List.map_cons, List.map_nil, Nat.reduceSub, List.replicate, List.cons_append, List.nil_append, x_seq, x_set, x_ifS, x_test, x_bin, x_var, x_k, List.getElem?_cons_zero, List.getElem?_cons_succ, ofO_ss, an_ok, see_law, law_0, i1, i2, List.set_cons_succ, List.set_cons_zero, oan_nx, see_fm, see_str, see_int, Fm.ix0, Fm.tag, eq_str ok_lit ok_lit, bool_bl, st_ok, ofString_inj, String.reduceEq, decide_true, decide_false, Bool.false_eq_true, if_false, x_nil, x_ret, x_and, x_call, x_args, x_args0, r1, r2, andV_bl]
    cases q : A.sem F a i <;> simp [Mo.sem, q]
  | or a b =>
    simp only [Fm.ht] at hk
    have r1 := fun w => ih a F i ro w (by omega) ho.1 hi
    have r2 := fun w => ih b F i ro w (by omega) ho.2 hi
    have i1 : ∀ w, gIx (Fm.or a b).toD (.int 1) ro w = .ok a.toD w := fun w => by simp [Fm.toD]
    have i2 : ∀ w, gIx (Fm.or a b).toD (.int 2) ro w = .ok b.toD w := fun w => by simp [Fm.toD]
    simp only [x_def, h_law_true, List.length_cons, List.length_nil, Nat.zero_add, Nat.reduceAdd, if_true, List.map_cons, List.map_nil, Nat.reduceSub, List.replicate, List.cons_append, List.nil_append, x_seq, x_set, x_ifS, x_test, x_bin, x_var, x_k, List.getElem?_cons_zero, List.getElem?_cons_succ, ofO_ss, an_ok, see_law, law_0, i1, i2, List.set_cons_succ, List.set_cons_zero, oan_nx, see_fm, see_str, see_int, Fm.ix0, Fm.tag, eq_str ok_lit ok_lit, bool_bl, st_ok, ofString_inj, String.reduceEq, decide_true, decide_false, Bool.false_eq_true, if_false, x_nil, x_ret, x_or, x_call, x_args, x_args0, r1, r2, orV_bl]
    cases q : A.sem F a i <;> simp [Mo.sem, q]
  | box a =>
    simp only [Fm.ht] at hk
    have r1 := fun j hj w => ih a F j ro w (by omega) ho hj
    have i1 : ∀ w, gIx (Fm.box a).toD (.int 1) ro w = .ok a.toD w := fun w => by simp [Fm.toD]
    obtain ⟨e', l⟩ := for_ret (ro := ro) (w := w) (env := [some A.lawD, some (Fm.box a).toD, some (nD i), some (.bl F), some (seenD A), none]) (h := nD) (k := 5) (l := List.range A.n) (d := .bl false) (p := fun j => A.s i j && !A.sem F a j)
      (s := sIf (cAndT (cTru (cBin gIx (cBin gIx (cVar 4) (cVar 2)) (cVar 5))) (cNotT (cTru (cCall (fun ds => if ds.length = 4 then ct ds else M.no) (cArgs [cVar 0, cBin gIx (cVar 1) (cK (.int 1)), cVar 5, cVar 3]))))) (sRet (cK (.bl false))) (sNil)) none fun j hj => by
        have hj := List.mem_range.mp hj
        simp only [List.set_cons_succ, List.set_cons_zero, x_ifS, x_andT, x_tru, x_bin, x_var, x_k, List.getElem?_cons_zero, List.getElem?_cons_succ, ofO_ss, an_ok, see_seen, see_int, seen_i hi, see_lst, seen_j hj, see_bl, truth_bl, x_notT, x_call, x_args, x_args0, List.length_cons, List.length_nil, Nat.zero_add, Nat.reduceAdd, if_true, see_fm, i1, r1 j hj, x_ret, x_nil]
        cases A.s i j <;> cases A.sem F a j <;> rfl
    simp only [x_def, h_law_true, List.length_cons, List.length_nil, Nat.zero_add, Nat.reduceAdd, if_true, List.map_cons, List.map_nil, Nat.reduceSub, List.replicate, List.cons_append, List.nil_append, x_seq, x_set, x_ifS, x_test, x_bin, x_var, x_k, List.getElem?_cons_zero, List.getElem?_cons_succ, ofO_ss, an_ok, see_law, law_0, i1, List.set_cons_succ, List.set_cons_zero, oan_nx, see_fm, see_str, see_int, Fm.ix0, Fm.tag, eq_str ok_lit ok_lit, bool_bl, st_ok, ofString_inj, String.reduceEq, decide_true, decide_false, Bool.false_eq_true, if_false, x_nil, x_for, x_rng1, x_args, x_args0, x_call, x_one, see_seen, len_seen, rng_n hA]
    simp only [List.set_cons_succ, List.set_cons_zero] at l
    rw [l]
    have e : A.sem F (.box a) i = !((List.range A.n).any fun j => A.s i j && !A.sem F a j) := by
      rw [List.not_any_eq_all_not]
      rfl
    rw [e]
    cases (List.range A.n).any fun j => A.s i j && !A.sem F a j <;> simp
  | imp a b =>
    simp only [Fm.ht] at hk
    have r1 := fun j hj w => ih a F j ro w (by omega) ho.1 hj
    have r2 := fun j hj w => ih b F j ro w (by omega) ho.2 hj
    have i1 : ∀ w, gIx (Fm.imp a b).toD (.int 1) ro w = .ok a.toD w := fun w => by simp [Fm.toD]
    have i2 : ∀ w, gIx (Fm.imp a b).toD (.int 2) ro w = .ok b.toD w := fun w => by simp [Fm.toD]
    obtain ⟨e', l⟩ := for_ret (ro := ro) (w := w) (env := [some A.lawD, some (Fm.imp a b).toD, some (nD i), some (.bl F), some (seenD A), none]) (h := nD) (k := 5) (l := List.range A.n) (d := .bl false) (p := fun j => ((decide (j = i) && !F) || (F && A.s i j)) && (A.sem F a j && !A.sem F b j))
      (s := sIf (cOrT (cAndT (cTest (cBin gEq (cVar 5) (cVar 2))) (cNotT (cTru (cVar 3)))) (cAndT (cTru (cVar 3)) (cTru (cBin gIx (cBin gIx (cVar 4) (cVar 2)) (cVar 5))))) (sIf (cAndT (cTru (cCall (fun ds => if ds.length = 4 then ct ds else M.no) (cArgs [cVar 0, cBin gIx (cVar 1) (cK (.int 1)), cVar 5, cVar 3]))) (cNotT (cTru (cCall (fun ds => if ds.length = 4 then ct ds else M.no) (cArgs [cVar 0, cBin gIx (cVar 1) (cK (.int 2)), cVar 5, cVar 3]))))) (sRet (cK (.bl false))) (sNil)) (sNil)) none fun j hj => by
        have hj := List.mem_range.mp hj
        have ej : decide ((j : Int) = (i : Int)) = decide (j = i) := decide_eq_decide.mpr (by omega)
        simp only [List.set_cons_succ, List.set_cons_zero, x_ifS, x_andT, x_orT, x_test, x_tru, x_bin, x_var, x_k, List.getElem?_cons_zero, List.getElem?_cons_succ, ofO_ss, an_ok, see_seen, see_int, eq_int, ej, bool_bl, seen_i hi, see_lst, seen_j hj, see_bl, truth_bl, x_notT, x_call, x_args, x_args0, List.length_cons, List.length_nil, Nat.zero_add, Nat.reduceAdd, if_true, see_fm, i1, i2, r1 j hj, r2 j hj, x_ret, x_nil]
        cases F <;> cases decide (j = i) <;> cases A.s i j <;> cases A.sem _ a j <;> cases A.sem _ b j <;> rfl
    simp only [x_def, h_law_true, List.length_cons, List.length_nil, Nat.zero_add, Nat.reduceAdd, if_true, List.map_cons, List.map_nil, Nat.reduceSub, List.replicate, List.cons_append, List.nil_append, x_seq, x_set, x_ifS, x_test, x_bin, x_var, x_k, List.getElem?_cons_zero, List.getElem?_cons_succ, ofO_ss, an_ok, see_law, law_0, i1, List.set_cons_succ, List.set_cons_zero, oan_nx, see_fm, see_str, see_int, Fm.ix0, Fm.tag, eq_str ok_lit ok_lit, bool_bl, st_ok, ofString_inj, String.reduceEq, decide_true, decide_false, Bool.false_eq_true, if_false, x_nil, x_for, x_rng1, x_args, x_args0, x_call, x_one, see_seen, len_seen, rng_n hA]
    simp only [List.set_cons_succ, List.set_cons_zero] at l
    rw [l]
    have e : A.sem F (.imp a b) i = !((List.range A.n).any fun j => ((decide (j = i) && !F) || (F && A.s i j)) && (A.sem F a j && !A.sem F b j)) := by
      cases F with
      | true =>
        rw [List.not_any_eq_all_not]
        show (List.range A.n).all (fun u => !(A.s i u && (A.sem true a u && !A.sem true b u))) = _
        congr 1
        funext u
        simp
      | false =>
        show (!(A.sem false a i && !A.sem false b i)) = _
        congr 1
        rw [Bool.eq_iff_iff, List.any_eq_true]
        constructor
        · intro h
          exact ⟨i, List.mem_range.mpr hi, by simpa using h⟩
        · rintro ⟨j, _, h⟩
          simp at h
          obtain ⟨rfl, h⟩ := h
          simpa using h
    rw [e]
    cases (List.range A.n).any fun j => ((decide (j = i) && !F) || (F && A.s i j)) && (A.sem F a j && !A.sem F b j) <;> simp
/-! ### where -/
def WhereSpec (A : Mo) (k : Nat) (f : List D → M D) : Prop := ∀ (φ : Fm) (F : Bool) (ro w : List D), φ.ht ≤ k → φ.Over SOk → f [A.lawD, φ.toD, .bl F] ro w = .ok (nsD ((List.range A.n).filter (A.sem F φ))) w
theorem where_ok (hA : A.n < 8) {ct : List D → M D} {k : Nat} (ih : TrueSpec A k ct) : WhereSpec A k (runDef 3 4 (h_law_where ct)) := by
  intro φ F ro w hk ho
  have c := comp_filt (k := 3) (env := [some A.lawD, some φ.toD, some (.bl F), none]) (ro := ro) (w := w) (ta := cTru (cCall (fun ds => if ds.length = 4 then ct ds else M.no) (cArgs [cVar 0, cVar 1, cVar 3, cVar 2]))) (fa := cVar 3) (h := nD) (g := nD) (p := A.sem F φ) (l := List.range A.n)
    (fun i hi => by
      have r := fun w => ih φ F i ro w hk ho (List.mem_range.mp hi)
      simp only [List.set_cons_succ, List.set_cons_zero, x_tru, x_call, x_args, x_args0, x_var, List.getElem?_cons_zero, List.getElem?_cons_succ, ofO_ss, an_ok, List.length_cons, List.length_nil, Nat.zero_add, Nat.reduceAdd, if_true, r, see_bl, truth_bl])
    (fun i _ _ => by simp only [List.set_cons_succ, List.set_cons_zero, x_var, List.getElem?_cons_zero, List.getElem?_cons_succ, ofO_ss])
  simp only [x_def, h_law_where, List.length_cons, List.length_nil, Nat.zero_add, Nat.reduceAdd, if_true, List.map_cons, List.map_nil, Nat.reduceSub, List.replicate, List.cons_append, List.nil_append, x_ret, x_comp, x_rng1, x_args, x_args0, x_call, x_one, x_bin, x_var, x_k, List.getElem?_cons_zero, List.getElem?_cons_succ, ofO_ss, an_ok, see_law, see_int, law_0, see_seen, len_seen, rng_n hA, sz_ns hA (Nat.le_of_eq List.length_range)]
  rw [show wipeE ([some A.lawD, some φ.toD, some (.bl F), none] : Env) [3] = [some A.lawD, some φ.toD, some (.bl F), none] from rfl, c]
  simp only [an_ok, x_still, st_ok, fin_rt]
/-! ### the program's form of it -/
def gridL (n m : Nat) : List (Nat × Nat) := (List.range n).flatMap fun i => (List.range m).map fun j => (i, j)
theorem pairs_grid : (gridL A.n A.n).filter (fun p => A.s p.1 p.2) = A.pairs := by
  unfold gridL Mo.pairs Mo.row
  rw [List.filter_flatMap]
  congr 1
  funext i
  rw [List.filter_map]
  rfl
def sGrid : SF := sExpr (cMl gAppend (cVar 2) (cArgs [cTup (cArgs [cVar 3, cVar 4])]))
theorem grid_in {i : Nat} {a b : Option D} : ∀ (js : List Nat) (acc : List (Nat × Nat)) (e4 : Option D), acc.length + js.length ≤ 1000 → ∃ e4', forL (.nm 4) sGrid (js.map nD) [a, b, some (.ref ro.length), some (nD i), e4] ro [.lst (acc.map prD)] = .go .nx [a, b, some (.ref ro.length), some (nD i), e4'] [.lst ((acc ++ js.map fun j => (i, j)).map prD)]
  | [], acc, e4, _ => ⟨e4, by simp⟩
  | j :: js, acc, e4, h => by
    have hs : sizeLine = 16777216 := rfl
    obtain ⟨e4', ih⟩ := grid_in (i := i) (a := a) (b := b) js (acc ++ [(i, j)]) (some (nD j)) (by simp at h ⊢; omega)
    refine ⟨e4', ?_⟩
    have ap := append_at (ro := ro) (w := [.lst (acc.map prD)]) (n := 0) (d := .tup [nD i, nD j]) rfl (by simp at h ⊢; omega)
    simp only [Nat.add_zero, List.set_cons_zero] at ap
    have body : sGrid [a, b, some (.ref ro.length), some (nD i), some (nD j)] ro [.lst (acc.map prD)] = .go .nx [a, b, some (.ref ro.length), some (nD i), some (nD j)] [.lst ((acc ++ [(i, j)]).map prD)] := by
      unfold sGrid
      simp only [x_expr, x_ml, x_var, List.getElem?_cons_zero, List.getElem?_cons_succ, ofO_ss, an_ok, see_at0, mlV_lst, x_args, x_args0, x_tup, ap, st_ok]
      simp [prD]
    rw [List.map_cons, for_nm]
    show (sGrid [a, b, some (.ref ro.length), some (nD i), some (nD j)] ro [.lst (acc.map prD)]).turn _ = _
    rw [body, tn_nx, ih]
    simp
theorem grid_out {n m : Nat} {b : Option D} (hm : m < 8) : ∀ (is : List Nat) (acc : List (Nat × Nat)) (e3 e4 : Option D), acc.length + is.length * m ≤ 1000 → ∃ e3' e4', forL (.nm 3) (sFor (.nm 4) (cRng1 (cArgs [cVar 1])) sGrid) (is.map nD) [b, some (nD m), some (.ref ro.length), e3, e4] ro [.lst (acc.map prD)] =
      .go .nx [b, some (nD m), some (.ref ro.length), e3', e4'] [.lst ((acc ++ is.flatMap fun i => (List.range m).map fun j => (i, j)).map prD)]
  | [], acc, e3, e4, _ => ⟨e3, e4, by simp⟩
  | i :: is, acc, e3, e4, h => by
    have hm2 : (i :: is).length * m = is.length * m + m := by simp [Nat.add_mul]
    obtain ⟨f4, h1⟩ := grid_in (ro := ro) (i := i) (a := b) (b := some (nD m)) (List.range m) acc e4 (by simp; omega)
    obtain ⟨e3', e4', ih⟩ := grid_out (n := n) (b := b) hm is (acc ++ (List.range m).map fun j => (i, j)) (some (nD i)) f4 (by simp; omega)
    refine ⟨e3', e4', ?_⟩
    rw [List.map_cons, for_nm]
    show (sFor (.nm 4) (cRng1 (cArgs [cVar 1])) sGrid [b, some (nD m), some (.ref ro.length), some (nD i), e4] ro [.lst (acc.map prD)]).turn _ = _
    have r : gRng1 [.int m] ro [.lst (acc.map prD)] = .ok ((List.range m).map nD) [.lst (acc.map prD)] := by
      rw [rng1_nat (by omega), rngD_nat]
    rw [x_for]
    simp only [x_rng1, x_args, x_args0, x_var, List.getElem?_cons_zero, List.getElem?_cons_succ, ofO_ss, an_ok, r, st_ok, h1, tn_nx, ih]
    simp
def GridSpec (f : List D → M D) : Prop := ∀ (n m : Nat) (ro w : List D), n < 8 → m < 8 → f [.int n, .int m] ro w = .ok (.lst ((gridL n m).map prD)) w
theorem under_prs {k : Nat} {l : List (Nat × Nat)} : D.under k (.lst (l.map prD)) = true := by
  have : D.unders k (l.map prD) = true := unders_iff.mpr fun d hd => by obtain ⟨i, _, rfl⟩ := List.mem_map.mp hd; rfl
  simpa [D.under] using this
theorem grid_ok : GridSpec (pureD (runDef 2 5 h_law_grid)) := by
  intro n m ro w hn hm
  have hnm : n * m ≤ 7 * 7 := Nat.mul_le_mul (by omega) (by omega)
  obtain ⟨e3, e4, h1⟩ := grid_out (ro := ro ++ w) (n := n) (b := some (nD n)) hm (List.range n) [] none none (by simp; omega)
  have r : ∀ v, gRng1 [.int n] (ro ++ w) v = .ok ((List.range n).map nD) v := fun v => by
    rw [rng1_nat (by omega), rngD_nat]
  have run : runDef 2 5 h_law_grid [.int n, .int m] (ro ++ w) [] = .ok (.ref (ro ++ w).length) [.lst ((gridL n m).map prD)] := by
    rw [x_def]
    simp only [List.length_cons, List.length_nil, Nat.zero_add, Nat.reduceAdd, if_true, List.map_cons, List.map_nil, Nat.reduceSub, List.replicate, List.cons_append, List.nil_append]
    unfold h_law_grid
    rw [x_seq, x_set, x_lstM]
    simp only [x_args0, an_ok, st_ok, oan_nx, List.nil_append, List.length_nil, Nat.add_zero, List.set_cons_succ, List.set_cons_zero]
    rw [x_seq, x_for]
    simp only [x_rng1, x_args, x_args0, x_var, List.getElem?_cons_zero, List.getElem?_cons_succ, ofO_ss, an_ok, r, st_ok]
    have h2 : forL (.nm 3) (sFor (.nm 4) (cRng1 (cArgs [cVar 1])) (sExpr (cMl gAppend (cVar 2) (cArgs [cTup (cArgs [cVar 3, cVar 4])])))) ((List.range n).map nD) [some (nD n), some (nD m), some (.ref (ro ++ w).length), none, none] (ro ++ w) [.lst []] = _ := h1
    rw [h2]
    simp only [oan_nx, x_ret, x_var, List.getElem?_cons_zero, List.getElem?_cons_succ, ofO_ss, st_ok, fin_rt]
    rfl
  unfold pureD
  simp only [run]
  have t : D.tell (told (ro ++ w).length [.lst ((gridL n m).map prD)] 4) (.ref (ro ++ w).length) = some (.lst ((gridL n m).map prD)) := by
    unfold D.tell
    have := told_at (b := (ro ++ w).length) (k := 3) (m := 0) (w := [.lst ((gridL n m).map prD)]) rfl
    exact this.trans (tell_self _ under_prs)
  rw [t]
theorem grid_len {n m : Nat} : (gridL n m).length = n * m := by
  unfold gridL
  induction n with
  | zero => simp
  | succ n ih =>
    rw [List.range_succ, List.flatMap_append, List.length_append, ih]
    simp [Nat.add_mul]
def FramedSpec (A : Mo) (f : List D → M D) : Prop := ∀ ro w, f [seenD A] ro w = .ok A.frD w
theorem framed_ok (hA : A.n < 8) {cg : List D → M D} (hg : GridSpec cg) : FramedSpec A (runDef 1 3 (h_law_framed cg)) := by
  intro ro w
  have hs : sizeLine = 16777216 := rfl
  have hlen : (gridL A.n A.n).length ≤ 1000 := by
    rw [grid_len]
    have : A.n * A.n ≤ 7 * 7 := Nat.mul_le_mul (by omega) (by omega)
    omega
  have c := comp_filt (k := 2) (env := [some (seenD A), some (.lst ((gridL A.n A.n).map prD)), none]) (ro := ro) (w := w) (ta := cTru (cBin gIx (cBin gIx (cVar 0) (cBin gIx (cVar 2) (cK (.int 0)))) (cBin gIx (cVar 2) (cK (.int 1))))) (fa := cVar 2) (h := prD) (g := prD) (p := fun p => A.s p.1 p.2) (l := gridL A.n A.n)
    (fun p hp => by
      obtain ⟨i, hi, hp⟩ := List.mem_flatMap.mp hp
      obtain ⟨j, hj, rfl⟩ := List.mem_map.mp hp
      have i0 : gIx (prD (i, j)) (.int 0) ro w = .ok (.int i) w := by simp [prD]
      have i1 : gIx (prD (i, j)) (.int 1) ro w = .ok (.int j) w := by simp [prD]
      simp only [List.set_cons_succ, List.set_cons_zero, x_tru, x_bin, x_var, x_k, List.getElem?_cons_zero, List.getElem?_cons_succ, ofO_ss, an_ok, see_int, see_seen, show see ro w (prD (i, j)) = prD (i, j) from rfl, i0, i1, seen_i (List.mem_range.mp hi), see_lst, seen_j (List.mem_range.mp hj), see_bl, truth_bl])
    (fun p _ _ => by simp only [List.set_cons_succ, List.set_cons_zero, x_var, List.getElem?_cons_zero, List.getElem?_cons_succ, ofO_ss])
  have hz : ((gridL A.n A.n).map prD).length ≤ sizeLine := by rw [List.length_map]; omega
  have g := fun w => hg A.n A.n ro w hA hA
  rw [pairs_grid] at c
  simp only [x_def, h_law_framed, List.length_cons, List.length_nil, Nat.zero_add, Nat.reduceAdd, if_true, List.map_cons, List.map_nil, Nat.reduceSub, List.replicate, List.cons_append, List.nil_append, x_seq, x_set, x_call, x_args, x_args0, x_var, List.getElem?_cons_zero, List.getElem?_cons_succ, ofO_ss, an_ok, x_one, see_seen, len_seen, g, st_ok, List.set_cons_succ, List.set_cons_zero, oan_nx, x_ret, x_tup, x_comp, x_seqI, seqV_lst, hz]
  rw [show wipeE ([some (seenD A), some (.lst ((gridL A.n A.n).map prD)), none] : Env) [2] = [some (seenD A), some (.lst ((gridL A.n A.n).map prD)), none] from rfl, c]
  simp only [an_ok, x_still, see_lst, tuple_lst, st_ok, fin_rt]
  rfl
def sCopy : SF := sDPutF (cVar 1) (cVar 2) (cCall (one gList) (cArgs [cDGet (cBin gIx (cVar 0) (cK (.int 1))) (cVar 2)]))
theorem copy_loop (nd : (A.v.map (·.1)).Nodup) (hsz : A.v.length < 1000) : ∀ (v2 v1 : List (Str × List Nat)) (e2 : Option D), A.v = v1 ++ v2 → ∃ e2', forL (.nm 2) sCopy (vks v2) [some A.lawD, some (.ref ro.length), e2] ro [vD v1] = .go .nx [some A.lawD, some (.ref ro.length), e2'] [vD A.v]
  | [], v1, e2, h => ⟨e2, by rw [h, List.append_nil]; rfl⟩
  | p :: v2, v1, e2, h => by
    have hs : sizeLine = 16777216 := rfl
    obtain ⟨e2', ih⟩ := copy_loop nd hsz v2 (v1 ++ [p]) (some (.str p.1)) (by rw [h]; simp)
    refine ⟨e2', ?_⟩
    have hp : p ∈ A.v := by rw [h]; simp
    have g : ∀ w, gDGet (vD A.v) (.str p.1) ro w = .ok (nsD p.2) w := fun w => dget_eq (by simp) (dget_v nd hp)
    have nk : p.1 ∉ v1.map (·.1) := fun hm => by
      rw [h, List.map_append, List.nodup_append] at nd
      exact nd.2.2 _ hm p.1 (by simp) rfl
    have hl : (vks v1).length < sizeLine := by
      have : v1.length ≤ A.v.length := by rw [h]; simp
      simp only [vks, List.length_map]
      omega
    have d1 := dput_at (ro := ro) (w := [vD v1]) (n := 0) (v := nsD p.2) (k := .str p.1) (ks := vks v1) (xs := vxs v1) rfl (by simp) hl
    have d2 : dput (vks v1) (vxs v1) (.str p.1) (nsD p.2) = vD (v1 ++ [p]) := by
      unfold dput
      rw [dhas_v nk, vD_eq]
      simp [vks, vxs]
    rw [d2] at d1
    simp only [Nat.add_zero, List.set_cons_zero] at d1
    have body : sCopy [some A.lawD, some (.ref ro.length), some (.str p.1)] ro [vD v1] = .go .nx [some A.lawD, some (.ref ro.length), some (.str p.1)] [vD (v1 ++ [p])] := by
      unfold sCopy
      simp only [x_dput, x_call, x_args, x_args0, x_dget, x_bin, x_var, x_k, List.getElem?_cons_zero, List.getElem?_cons_succ, ofO_ss, an_ok, see_law, see_int, law_1, show ∀ w, see ro w (vD A.v) = vD A.v from fun _ => rfl, g, x_one, see_lst, list_lst, st_ok, d1]
    show forL (.nm 2) sCopy (.str p.1 :: vks v2) _ _ _ = _
    rw [for_nm]
    show (sCopy [some A.lawD, some (.ref ro.length), some (.str p.1)] ro [vD v1]).turn _ = _
    rw [body, tn_nx, ih]
def ProgSpec (A : Mo) (f : List D → M D) : Prop := ∀ ro w, f [A.lawD] ro w = .ok (.tup [A.frD, vD A.v]) w
theorem prog_ok (nd : (A.v.map (·.1)).Nodup) (hsz : A.v.length < 1000) {cf : List D → M D} (hf : FramedSpec A cf) : ProgSpec A (pureD (runDef 1 3 (h_law_program_model cf))) := by
  intro ro w
  obtain ⟨e2, l⟩ := copy_loop (ro := ro ++ w) nd hsz A.v [] none rfl
  have run : runDef 1 3 (h_law_program_model cf) [A.lawD] (ro ++ w) [] = .ok (.tup [A.frD, .ref (ro ++ w).length]) [vD A.v] := by
    rw [x_def]
    simp only [List.length_cons, List.length_nil, Nat.zero_add, Nat.reduceAdd, if_true, List.map_cons, List.map_nil, Nat.reduceSub, List.replicate, List.cons_append, List.nil_append]
    unfold h_law_program_model
    rw [x_seq, x_set]
    simp only [x_dnew, st_ok, oan_nx, List.length_nil, Nat.add_zero, List.nil_append, List.set_cons_succ, List.set_cons_zero]
    rw [x_seq, x_forX, x_for]
    have k1 : ∀ v, cKeysX 0 1 [some A.lawD, some (.ref (ro ++ w).length), none] (ro ++ w) v = .ok (vks A.v) v := fun v => x_keysX (ys := vxs A.v) rfl rfl
    have l2 : forL (.nm 2) (sDPutF (cVar 1) (cVar 2) (cCall (one gList) (cArgs [cDGet (cBin gIx (cVar 0) (cK (.int 1))) (cVar 2)]))) (vks A.v) [some A.lawD, some (.ref (ro ++ w).length), none] (ro ++ w) [.dic [] []] = _ := l
    rw [k1, st_ok, l2]
    have f := fun v => hf (ro ++ w) v
    simp only [OS.calm, oan_nx, x_ret, x_tup, x_args, x_args0, x_call, x_bin, x_var, x_k, List.getElem?_cons_zero, List.getElem?_cons_succ, ofO_ss, an_ok, see_law, see_int, law_0, List.length_cons, List.length_nil, Nat.zero_add, Nat.reduceAdd, if_true, f, st_ok, fin_rt]
  unfold pureD
  simp only [run]
  have t0 : told (ro ++ w).length [vD A.v] 4 (ro ++ w).length = some (vD A.v) := (told_at (b := (ro ++ w).length) (k := 3) (m := 0) (w := [vD A.v]) rfl).trans (tell_self _ under_v)
  have t : D.tell (told (ro ++ w).length [vD A.v] 4) (.tup [A.frD, .ref (ro ++ w).length]) = some (.tup [A.frD, vD A.v]) := by
    have t1 : D.tell (told (ro ++ w).length [vD A.v] 4) A.frD = some A.frD := tell_self _ under_fr
    simp only [D.tell, D.tells, t0]
    have t2 : D.tell (told (ro ++ w).length [vD A.v] 4) A.frD = some A.frD := t1
    simp only [t2]
    rfl
  rw [t]
end
end Fx
/-! Models: how the law draws them. -/
namespace Fx
open PySem PySem.Spec L2
def h_law_closed : SF :=
  sSeq (sSet 2 (cCall (one gLen) (cArgs [cVar 0])))
  (sSeq (sSet 3 (cComp (.nm 7) [7] (cSeq (cVar 0)) (cYes) (cCall (one gListM) (cArgs [cVar 7])) kMut))
  (sSeq (sIf (cTest (cBin gNotIn (cVar 1) (cTup (cArgs [cK (.str "K"), cK (.str "D"), cK (.str "K4"), cK (.str "D4"), cK (.str "GL")])))) (sFor (.nm 4) (cRng1 (cArgs [cVar 2])) (sPut (cBin gIx (cVar 3) (cVar 4)) (cVar 4) (cK (.bl true)))) (sNil))
  (sSeq (sIf (cTest (cBin gEq (cVar 1) (cK (.str "S5")))) (sFor (.nm 4) (cRng1 (cArgs [cVar 2])) (sFor (.nm 6) (cRng1 (cArgs [cVar 2])) (sPut (cBin gIx (cVar 3) (cVar 4)) (cVar 6) (cOr (cBin gIx (cBin gIx (cVar 3) (cVar 4)) (cVar 6)) (cBin gIx (cBin gIx (cVar 3) (cVar 6)) (cVar 4)))))) (sNil))
  (sSeq (sIf (cTest (cBin gIn (cVar 1) (cTup (cArgs [cK (.str "D"), cK (.str "D4")])))) (sFor (.nm 4) (cRng1 (cArgs [cVar 2])) (sIf (cTest (cBin gNotIn (cK (.bl true)) (cBin gIx (cVar 3) (cVar 4)))) (sPut (cBin gIx (cVar 3) (cVar 4)) (cVar 4) (cK (.bl true))) (sNil))) (sNil))
  (sSeq (sIf (cTest (cBin gNotIn (cVar 1) (cTup (cArgs [cK (.str "K"), cK (.str "D"), cK (.str "T")])))) (sFor (.nm 5) (cRng1 (cArgs [cVar 2])) (sFor (.nm 4) (cRng1 (cArgs [cVar 2])) (sFor (.nm 6) (cRng1 (cArgs [cVar 2])) (sPut (cBin gIx (cVar 3) (cVar 4)) (cVar 6) (cOr (cBin gIx (cBin gIx (cVar 3) (cVar 4)) (cVar 6)) (cAnd (cBin gIx (cBin gIx (cVar 3) (cVar 4)) (cVar 5)) (cBin gIx (cBin gIx (cVar 3) (cVar 5)) (cVar 6)))))))) (sNil))
  (sRet (cVar 3)))))))
def h_law_model (c_law_closed : List D → M D) : SF :=
  sSeq (sSet 3 (cK (.int 0)))
  (sSeq (sIf (cTest (cBin gNe (cVar 0) (cLst (cArgs [])))) (sSet 3 (cCall (one gInt) (cArgs [cBin gIx (cVar 0) (cK (.int 0))]))) (sNil))
  (sSeq (sSet 4 (cBin gAdd (cK (.int 1)) (cBin gMod (cVar 3) (cVar 2))))
  (sSeq (sSet 5 (cBin gDiv (cVar 3) (cK (.int 8))))
  (sSeq (sFor (.nm 6) (cSeq (cSl (cVar 0) (cPart (cK (.int 1))) (cPart (cK (.int 3))))) (sSet 5 (cBin gAdd (cBin gMul (cVar 5) (cK (.int 4096))) (cCall (one gInt) (cArgs [cVar 6])))))
  (sSeq (sTell (sSeq (sSet 7 (cLstM (cArgs []))) (sFor (.nm 8) (cRng1 (cArgs [cVar 4])) (sSeq (sSet 11 (cComp (.nm 15) [15] (cRng1 (cArgs [cVar 4])) (cYes) (cBin gEq (cBin gBand (cBin gShr (cVar 5) (cBin gAdd (cBin gMul (cVar 8) (cVar 4)) (cVar 15))) (cK (.int 1))) (cK (.int 1))) kStill))
  (sSeq (sIf (cTest (cBin gIn (cVar 1) (cTup (cArgs [cK (.str "GL"), cK (.str "Grz"), cK (.str "Int"), cK (.str "KC"), cK (.str "LC"), cK (.str "BD2"), cK (.str "HT"), cK (.str "Cl")])))) (sSet 11 (cComp (.nm 15) [15] (cRng1 (cArgs [cVar 4])) (cYes) (cAnd (cBin gIx (cVar 11) (cVar 15)) (cBin gLt (cVar 8) (cVar 15))) kStill)) (sNil))
  (sSeq (sIf (cTest (cBin gIn (cVar 1) (cTup (cArgs [cK (.str "LC"), cK (.str "HT")])))) (sSet 11 (cComp (.nm 15) [15] (cRng1 (cArgs [cVar 4])) (cYes) (cBin gLt (cVar 8) (cVar 15)) kStill)) (sNil))
  (sSeq (sIf (cTest (cBin gIn (cVar 1) (cTup (cArgs [cK (.str "KC")])))) (sSet 11 (cComp (.nm 15) [15] (cRng1 (cArgs [cVar 4])) (cYes) (cOr (cBin gIx (cVar 11) (cVar 15)) (cAnd (cBin gEq (cVar 15) (cBin gSub (cVar 4) (cK (.int 1)))) (cBin gLt (cVar 8) (cVar 15)))) kStill)) (sNil))
  (sSeq (sIf (cTest (cBin gIn (cVar 1) (cTup (cArgs [cK (.str "BD2")])))) (sSet 11 (cComp (.nm 15) [15] (cRng1 (cArgs [cVar 4])) (cYes) (cAnd (cBin gIx (cVar 11) (cVar 15)) (cChain gLt gLe (cVar 8) (cBin gDiv (cVar 4) (cK (.int 2))) (cVar 15))) kStill)) (sNil))
  (sSeq (sIf (cTest (cBin gEq (cVar 1) (cK (.str "Cl")))) (sSet 11 (cBin gMulF (cLst (cArgs [cK (.bl false)])) (cVar 4))) (sNil))
  (sExpr (cMl gAppend (cVar 7) (cArgs [cVar 11]))))))))))))
  (sSeq (sIf (cAndT (cTest (cBin gEq (cVar 1) (cK (.str "HT")))) (cTest (cBin gGt (cVar 4) (cK (.int 2))))) (sSet 7 (cComp (.nm 8) [8] (cRng1 (cArgs [cVar 4])) (cYes) (cComp (.nm 15) [15] (cRng1 (cArgs [cVar 4])) (cYes) (cAnd (cBin gLt (cVar 8) (cVar 15)) (cBin gEq (cBin gDiv (cVar 8) (cK (.int 2))) (cBin gDiv (cVar 15) (cK (.int 2))))) kStill) kStill)) (sNil))
  (sSeq (sSet 7 (cCall (fun ds => if ds.length = 2 then c_law_closed ds else M.no) (cArgs [cVar 7, cVar 1])))
  (sSeq (sSet 9 (cDNew))
  (sSeq (sFor (.nm 10) (cRng1 (cArgs [cK (.int 3)])) (sSeq (sSet 12 (cBin gIx (cK (.str "pqr")) (cVar 10)))
  (sSeq (sSet 13 (cK (.int 0)))
  (sSeq (sIf (cTest (cBin gGt (cCall (one gLen) (cArgs [cVar 0])) (cBin gAdd (cK (.int 3)) (cVar 10)))) (sSet 13 (cBin gMod (cCall (one gInt) (cArgs [cBin gIx (cVar 0) (cBin gAdd (cK (.int 3)) (cVar 10))])) (cBin gShl (cK (.int 1)) (cVar 4)))) (sNil))
  (sSeq (sSet 14 (cComp (.nm 15) [15] (cRng1 (cArgs [cVar 4])) (cTest (cBin gEq (cBin gBand (cBin gShr (cVar 13) (cVar 15)) (cK (.int 1))) (cK (.int 1)))) (cVar 15) kStill))
  (sSeq (sIf (cTest (cBin gIn (cVar 1) (cTup (cArgs [cK (.str "Int"), cK (.str "KC"), cK (.str "LC"), cK (.str "BD2"), cK (.str "HT"), cK (.str "Cl")])))) (sSet 14 (cComp (.nm 15) [15] (cRng1 (cArgs [cVar 4])) (cTest (cBin gIn (cK (.bl true)) (cComp (.nm 8) [8] (cSeq (cVar 14)) (cYes) (cBin gIx (cBin gIx (cVar 7) (cVar 8)) (cVar 15)) kStill))) (cVar 15) kStill)) (sNil))
  (sDPutF (cVar 9) (cVar 12) (cVar 14))))))))
  (sRet (cTup (cArgs [cVar 7, cVar 9]))))))))))))
def h_law_wide_model (c_law_draw : List D → M D) : SF :=
  sSeq (sSet 2 (cBin gAdd (cK (.int 1)) (cCall (fun ds => if ds.length = 2 then c_law_draw ds else M.no) (cArgs [cVar 0, cVar 1]))))
  (sSeq (sSet 3 (cBin gAdd (cK (.int 1)) (cCall (fun ds => if ds.length = 2 then c_law_draw ds else M.no) (cArgs [cVar 0, cK (.int 4)]))))
  (sSeq (sSet 4 (cComp (.nm 7) [7] (cRng1 (cArgs [cVar 2])) (cYes) (cComp (.nm 8) [8] (cRng1 (cArgs [cVar 2])) (cYes) (cBin gLt (cCall (fun ds => if ds.length = 2 then c_law_draw ds else M.no) (cArgs [cVar 0, cK (.int 5)])) (cVar 3)) kStill) kStill))
  (sSeq (sSet 5 (cDNew))
  (sSeq (sFor (.nm 6) (cSeq (cTup (cArgs [cK (.str "p"), cK (.str "q"), cK (.str "r")]))) (sDPutF (cVar 5) (cVar 6) (cComp (.nm 8) [8] (cRng1 (cArgs [cVar 2])) (cTest (cBin gEq (cCall (fun ds => if ds.length = 2 then c_law_draw ds else M.no) (cArgs [cVar 0, cK (.int 3)])) (cK (.int 0)))) (cVar 8) kStill)))
  (sRet (cTup (cArgs [cVar 4, cVar 5])))))))
def h_law_drawn_model (c_law_model c_law_list : List D → M D) : SF :=
  sRet (cCall (fun ds => if ds.length = 3 then c_law_model ds else M.no) (cArgs [cCall (fun ds => if ds.length = 2 then c_law_list ds else M.no) (cArgs [cVar 0, cK (.int 6)]), cVar 1, cVar 2]))
def h_law_names : SF :=
  sRet (cLst (cArgs [cK (.str "K"), cK (.str "D"), cK (.str "T"), cK (.str "K4"), cK (.str "D4"), cK (.str "S4"), cK (.str "S5"), cK (.str "GL"), cK (.str "Grz"), cK (.str "Int"), cK (.str "KC"), cK (.str "LC"), cK (.str "BD2"), cK (.str "HT"), cK (.str "Cl")]))
def h_law_any_model (c_law_draw c_law_wide_model c_law_drawn_model c_law_names : List D → M D) : SF :=
  sSeq (sIf (cTest (cBin gEq (cCall (fun ds => if ds.length = 2 then c_law_draw ds else M.no) (cArgs [cVar 0, cK (.int 2)])) (cK (.int 0)))) (sRet (cCall (fun ds => if ds.length = 2 then c_law_wide_model ds else M.no) (cArgs [cVar 0, cVar 1]))) (sNil))
  (sRet (cCall (fun ds => if ds.length = 3 then c_law_drawn_model ds else M.no) (cArgs [cVar 0, cBin gIx (cCall0 (c_law_names)) (cCall (fun ds => if ds.length = 2 then c_law_draw ds else M.no) (cArgs [cVar 0, cK (.int 15)])), cVar 1])))
section
variable {ro w : List D} {env : Env}
theorem for_inv {k : Nat} {s : SF} {I : Env → List D → Prop} : ∀ (l : List Nat) (env : Env) (w : List D), I env w → (∀ i ∈ l, ∀ env w, I env w → ∃ env' w', s (env.set k (some (nD i))) ro w = .go .nx env' w' ∧ I env' w') →
    ∃ env' w', forL (.nm k) s (l.map nD) env ro w = .go .nx env' w' ∧ I env' w'
  | [], env, w, h, _ => ⟨env, w, rfl, h⟩
  | i :: l, env, w, h, hs => by
    obtain ⟨env1, w1, h1, h2⟩ := hs i (by simp) env w h
    obtain ⟨env2, w2, h3, h4⟩ := for_inv l env1 w1 h2 fun j hj => hs j (List.mem_cons_of_mem _ hj)
    exact ⟨env2, w2, by rw [List.map_cons, for_nm, h1, tn_nx, h3], h4⟩
theorem put_at {n : Nat} {k : Int} {v : D} {ds : List D} {j : Nat} (h : w[n]? = some (.lst ds)) (hj : L2.ixN ds.length k = some j) : gPut v (.ref (ro.length + n)) (.int k) ro w = .ok .non (w.set n (.lst (ds.set j v))) := by
  unfold gPut mMod
  simp [h, hj]
abbrev bD (bs : List Bool) : D := .lst (bs.map .bl)
structure Sq (n : Nat) (bss : List (List Bool)) : Prop where
  len : bss.length = n
  all : ∀ bs ∈ bss, bs.length = n
theorem Sq.at {n : Nat} {bss : List (List Bool)} (h : Sq n bss) {i j : Nat} (hi : i < n) (hj : j < n) : ∃ bs b, bss[i]? = some bs ∧ bs.length = n ∧ bs[j]? = some b := by
  have hl := h.len
  have h1 : bss[i]? = some (bss[i]'(by omega)) := List.getElem?_eq_getElem (by omega)
  have h2 := h.all _ (List.mem_of_getElem? h1)
  exact ⟨_, _, h1, h2, List.getElem?_eq_getElem (by omega)⟩
theorem Sq.put {n : Nat} {bss : List (List Bool)} (h : Sq n bss) {i j : Nat} {bs : List Bool} {b : Bool} (hb : bss[i]? = some bs) : Sq n (bss.set i (bs.set j b)) :=
  ⟨by rw [List.length_set]; exact h.len, fun x hx => by
    rcases List.mem_or_eq_of_mem_set hx with hx | hx
    · exact h.all x hx
    · subst hx
      rw [List.length_set]
      exact h.all _ (List.mem_of_getElem? hb)⟩
/-- rows that may change, behind them the list of them -/
def cW (b n : Nat) (bss : List (List Bool)) : List D := bss.map bD ++ [.lst ((List.range n).map fun i => .ref (b + i))]
theorem cW_refs {b n : Nat} {bss : List (List Bool)} (h : Sq n bss) : (cW b n bss)[n]? = some (.lst ((List.range n).map fun i => .ref (b + i))) := by
  unfold cW
  rw [List.getElem?_append_right (by simp [h.len])]
  simp [h.len]
theorem cW_row {b n i : Nat} {bss : List (List Bool)} (h : Sq n bss) (hi : i < n) {bs : List Bool} (hb : bss[i]? = some bs) : (cW b n bss)[i]? = some (bD bs) := by
  unfold cW
  rw [List.getElem?_append_left (by simp [h.len, hi]), List.getElem?_map, hb]
  rfl
theorem cW_set {b n i : Nat} {bss : List (List Bool)} (h : Sq n bss) (hi : i < n) {bs : List Bool} : (cW b n bss).set i (bD bs) = cW b n (bss.set i bs) := by
  unfold cW
  rw [List.set_append_left _ _ (by simp [h.len, hi]), List.map_set]
/-- pairs[a] -/
theorem rd1 {n i a : Nat} {bss : List (List Bool)} (h : Sq n bss) (hi : i < n) (h3 : env[3]? = some (some (.ref (ro.length + n)))) (ha : env[a]? = some (some (nD i))) : cBin gIx (cVar 3) (cVar a) env ro (cW ro.length n bss) = .ok (.ref (ro.length + i)) (cW ro.length n bss) := by
  rw [x_bin]
  simp only [x_var, h3, ha, ofO_ss, an_ok, see_at (cW_refs h), see_int, ix_lst, atI_nat]
  simp [hi]
theorem rd2 {n i j a c : Nat} {bss : List (List Bool)} (h : Sq n bss) (hi : i < n) (hj : j < n) (h3 : env[3]? = some (some (.ref (ro.length + n)))) (ha : env[a]? = some (some (nD i))) (hc : env[c]? = some (some (nD j))) :
    ∃ b, cBin gIx (cBin gIx (cVar 3) (cVar a)) (cVar c) env ro (cW ro.length n bss) = .ok (.bl b) (cW ro.length n bss) := by
  obtain ⟨bs, b, h1, h2, h4⟩ := h.at hi hj
  refine ⟨b, ?_⟩
  rw [x_bin, rd1 h hi h3 ha]
  simp only [x_var, hc, ofO_ss, an_ok, see_at (cW_row h hi h1), see_int, ix_lst, atI_nat]
  simp [h4]
theorem wr {n i j a c : Nat} {fv : EF} {b : Bool} {bss : List (List Bool)} (h : Sq n bss) (hi : i < n) (hj : j < n) (h3 : env[3]? = some (some (.ref (ro.length + n)))) (ha : env[a]? = some (some (nD i))) (hc : env[c]? = some (some (nD j))) (hv : fv env ro (cW ro.length n bss) = .ok (.bl b) (cW ro.length n bss)) :
    ∃ bss', sPut (cBin gIx (cVar 3) (cVar a)) (cVar c) fv env ro (cW ro.length n bss) = .go .nx env (cW ro.length n bss') ∧ Sq n bss' := by
  obtain ⟨bs, b0, h1, h2, h4⟩ := h.at hi hj
  refine ⟨bss.set i (bs.set j b), ?_, h.put h1⟩
  have p := put_at (ro := ro) (w := cW ro.length n bss) (n := i) (k := (j : Int)) (v := .bl b) (ds := bs.map .bl) (j := j) (cW_row h hi h1) (by rw [ixN_nat]; simp [h2, hj])
  rw [x_put, hv]
  simp only [st_ok, rd1 h hi h3 ha, x_var, hc, ofO_ss, p]
  rw [show D.lst ((bs.map D.bl).set j (.bl b)) = bD (bs.set j b) from by unfold bD; rw [List.map_set], cW_set h hi]
/-- the env of _law_closed -/
def cE (b n : Nat) (s l : D) (e4 e5 e6 e7 : Option D) : Env := [some s, some l, some (nD n), some (.ref (b + n)), e4, e5, e6, e7]
def cI (b n : Nat) (s l : D) (env : Env) (w : List D) : Prop := ∃ e4 e5 e6 e7 bss, env = cE b n s l e4 e5 e6 e7 ∧ w = cW b n bss ∧ Sq n bss
theorem cond_in {x : Str} {ts : List D} {k : Nat} (h : env[k]? = some (some (.str x))) (ht : ts.all D.sc = true) {fs : Env → M (List D)} (hf : ∀ w, fs env ro w = .ok ts w) : ∃ b, ∀ w, cTest (cBin gIn (cVar k) (cTup fs)) env ro w = .ok b w := by
  refine ⟨ts.any fun d => d.eqs (.str x), fun w => ?_⟩
  rw [x_test, x_bin]
  simp only [x_var, h, ofO_ss, an_ok, x_tup, hf, see_str, see_tup, in_tup_str, ht, if_true, inV_s, bool_bl]
theorem notIn_s {x : Str} {ts : List D} (ht : ts.all D.sc = true) : gNotIn (.str x) (.tup ts) ro w = .ok (.bl (!ts.any fun d => d.eqs (.str x))) w := by
  refine x_notIn ?_
  unfold inD
  simp [ht]
theorem cond_notIn {x : Str} {ts : List D} {k : Nat} (h : env[k]? = some (some (.str x))) (ht : ts.all D.sc = true) {fs : Env → M (List D)} (hf : ∀ w, fs env ro w = .ok ts w) : ∃ b, ∀ w, cTest (cBin gNotIn (cVar k) (cTup fs)) env ro w = .ok b w := by
  refine ⟨!ts.any fun d => d.eqs (.str x), fun w => ?_⟩
  rw [x_test, x_bin]
  simp only [x_var, h, ofO_ss, an_ok, x_tup, hf, see_str, see_tup, notIn_s ht, bool_bl]
theorem cond_eq {x y : Str} {k : Nat} (h : env[k]? = some (some (.str x))) (hx : SOk x) (hy : SOk y) : ∃ b, ∀ w, cTest (cBin gEq (cVar k) (cK (.str y))) env ro w = .ok b w := by
  refine ⟨decide (x = y), fun w => ?_⟩
  rw [x_test, x_bin]
  simp only [x_var, h, ofO_ss, an_ok, x_k, see_str, eq_str hx hy, bool_bl]
/-- if test: s -/
theorem if_inv {ta : Env → M Bool} {s : SF} {I : Env → List D → Prop} {b : Bool} (ht : ta env ro w = .ok b w) (h : I env w) (hs : ∃ env' w', s env ro w = .go .nx env' w' ∧ I env' w') : ∃ env' w', sIf ta s sNil env ro w = .go .nx env' w' ∧ I env' w' := by
  rw [x_ifS, ht]
  cases b with
  | true => simpa using hs
  | false => exact ⟨env, w, by simp, h⟩
theorem rng_it {n k : Nat} (hn : n ≤ 1000) (h : env[k]? = some (some (nD n))) : cRng1 (cArgs [cVar k]) env ro w = .ok ((List.range n).map nD) w := by
  rw [x_rng1]
  simp only [x_args, x_args0, x_var, h, ofO_ss, an_ok]
  rw [rng1_nat (by omega), rngD_nat]
theorem for_rng {n k k2 : Nat} {s : SF} {I : Env → List D → Prop} (hn : n ≤ 1000) (hk : env[k2]? = some (some (nD n))) (h : I env w) (hs : ∀ i, i < n → ∀ env w, I env w → ∃ env' w', s (env.set k (some (nD i))) ro w = .go .nx env' w' ∧ I env' w') :
    ∃ env' w', sFor (.nm k) (cRng1 (cArgs [cVar k2])) s env ro w = .go .nx env' w' ∧ I env' w' := by
  rw [x_for, rng_it hn hk, st_ok]
  exact for_inv _ env w h fun i hi => hs i (List.mem_range.mp hi)
def ClosedSpec (n : Nat) (f : List D → M D) : Prop := ∀ (bss : List (List Bool)) (x : Str) (ro w : List D), Sq n bss → SOk x → ∃ bss', f [.lst (bss.map bD), .str x] ro w = .ok (.lst (bss'.map bD)) w ∧ Sq n bss'
theorem comp_lists {k : Nat} : ∀ (ds : List (List D)) (w : List D), compR (.nm k) cYes (cCall (one gListM) (cArgs [cVar k])) env (ds.map .lst) ro w = .ok ((List.range ds.length).map fun i => .ref (ro.length + (w.length + i))) (w ++ ds.map .lst) ∨ env.length ≤ k
  | [], w => .inl (by simp)
  | d :: ds, w => by
    rcases comp_lists (k := k) ds (w ++ [.lst d]) with h | h
    · by_cases hk : k < env.length
      · refine .inl ?_
        rw [List.map_cons, comp_nm]
        simp only [x_yes, calm_ok', an_ok, if_true, x_call, x_args, x_args0, x_var, List.getElem?_set_self hk, ofO_ss, x_one, see_lst, listM_lst, h]
        simp only [List.length_cons, List.range_succ_eq_map, List.map_cons, List.map_map, List.length_append, List.length_nil, List.append_assoc]
        congr 1
        congr 1
        refine List.map_congr_left fun i _ => ?_
        show D.ref _ = D.ref _
        congr 1
        simp
        omega
      · exact .inr (by omega)
    · exact .inr h
theorem closed_ok {n : Nat} (hn : n ≤ 1000) : ClosedSpec n (pureD (runDef 2 8 h_law_closed)) := by
  intro bss x ro w hq hx
  have hs : sizeLine = 16777216 := rfl
  have hl : bss.length = n := hq.len
  have cp := comp_lists (k := 7) (env := [some (.lst (bss.map bD)), some (.str x), some (nD n), none, none, none, none, none]) (ro := ro ++ w) (bss.map fun bs => bs.map .bl) []
  have cp2 : compR (.nm 7) cYes (cCall (one gListM) (cArgs [cVar 7])) [some (.lst (bss.map bD)), some (.str x), some (nD n), none, none, none, none, none] (bss.map bD) (ro ++ w) [] = .ok ((List.range n).map fun i => .ref ((ro ++ w).length + i)) (bss.map bD) := by
    rcases cp with h | h
    · simp only [List.map_map, List.length_map, hl, List.length_nil, Nat.zero_add, List.nil_append] at h
      exact h
    · simp at h
  have st1 : ∀ t, (sSeq (sSet 2 (cCall (one gLen) (cArgs [cVar 0]))) (sSeq (sSet 3 (cComp (.nm 7) [7] (cSeq (cVar 0)) (cYes) (cCall (one gListM) (cArgs [cVar 7])) kMut)) t)) [some (.lst (bss.map bD)), some (.str x), none, none, none, none, none, none] (ro ++ w) [] =
      t (cE (ro ++ w).length n (.lst (bss.map bD)) (.str x) none none none none) (ro ++ w) (cW (ro ++ w).length n bss) := fun t => by
    have hz : (bss.map bD).length ≤ sizeLine := by simp [hl]; omega
    rw [x_seq, x_set]
    simp only [x_call, x_args, x_args0, x_var, List.getElem?_cons_zero, ofO_ss, an_ok, x_one, see_lst, len_lst, List.length_map, hl, st_ok, oan_nx, List.set_cons_succ, List.set_cons_zero]
    rw [x_seq, x_set, x_comp]
    simp only [x_seqI, x_var, List.getElem?_cons_zero, ofO_ss, an_ok, seqV_lst, hz, if_true]
    rw [show wipeE ([some (.lst (bss.map bD)), some (.str x), some (.int n), none, none, none, none, none] : Env) [7] = [some (.lst (bss.map bD)), some (.str x), some (nD n), none, none, none, none, none] from rfl, cp2]
    simp only [an_ok, x_mut, st_ok, oan_nx, List.length_map, hl]
    rfl
  generalize hb : (ro ++ w).length = b at st1 ⊢
  generalize hS : D.lst (bss.map bD) = S at st1 ⊢
  have Iv : ∀ (e4 e5 e6 e7 : Option D) (b2 : List (List Bool)), Sq n b2 → cI b n S (.str x) (cE b n S (.str x) e4 e5 e6 e7) (cW b n b2) := fun e4 e5 e6 e7 b2 h => ⟨e4, e5, e6, e7, b2, rfl, rfl, h⟩
  have L1 : ∀ env v, cI b n S (.str x) env v → ∃ env' v', (sIf (cTest (cBin gNotIn (cVar 1) (cTup (cArgs [cK (.str "K"), cK (.str "D"), cK (.str "K4"), cK (.str "D4"), cK (.str "GL")])))) (sFor (.nm 4) (cRng1 (cArgs [cVar 2])) (sPut (cBin gIx (cVar 3) (cVar 4)) (cVar 4) (cK (.bl true)))) (sNil)) env (ro ++ w) v = .go .nx env' v' ∧ cI b n S (.str x) env' v' := by
    rintro env v ⟨e4, e5, e6, e7, b2, rfl, rfl, h⟩
    obtain ⟨c, hc⟩ := cond_notIn (ro := ro ++ w) (env := cE b n S (.str x) e4 e5 e6 e7) (x := x) (k := 1) (ts := [.str "K", .str "D", .str "K4", .str "D4", .str "GL"]) (fs := cArgs [cK (.str "K"), cK (.str "D"), cK (.str "K4"), cK (.str "D4"), cK (.str "GL")]) rfl rfl fun w => by simp
    refine if_inv (hc _) (Iv _ _ _ _ _ h) (for_rng (k2 := 2) hn rfl (Iv _ _ _ _ _ h) ?_)
    rintro i hi env v ⟨e4, e5, e6, e7, b2, rfl, rfl, h⟩
    subst hb
    obtain ⟨b3, g1, g2⟩ := wr (ro := ro ++ w) (env := cE (ro ++ w).length n S (.str x) (some (nD i)) e5 e6 e7) (fv := cK (.bl true)) (b := true) (a := 4) (c := 4) h hi hi rfl rfl rfl rfl
    exact ⟨_, _, g1, Iv _ _ _ _ _ g2⟩
  have L2 : ∀ env v, cI b n S (.str x) env v → ∃ env' v', (sIf (cTest (cBin gEq (cVar 1) (cK (.str "S5")))) (sFor (.nm 4) (cRng1 (cArgs [cVar 2])) (sFor (.nm 6) (cRng1 (cArgs [cVar 2])) (sPut (cBin gIx (cVar 3) (cVar 4)) (cVar 6) (cOr (cBin gIx (cBin gIx (cVar 3) (cVar 4)) (cVar 6)) (cBin gIx (cBin gIx (cVar 3) (cVar 6)) (cVar 4)))))) (sNil)) env (ro ++ w) v = .go .nx env' v' ∧ cI b n S (.str x) env' v' := by
    rintro env v ⟨e4, e5, e6, e7, b2, rfl, rfl, h⟩
    obtain ⟨c, hc⟩ := cond_eq (ro := ro ++ w) (env := cE b n S (.str x) e4 e5 e6 e7) (x := x) (y := "S5") (k := 1) rfl hx ok_lit
    refine if_inv (hc _) (Iv _ _ _ _ _ h) (for_rng (k2 := 2) hn rfl (Iv _ _ _ _ _ h) ?_)
    rintro i hi env v ⟨e4, e5, e6, e7, b2, rfl, rfl, h⟩
    have lp := for_rng (ro := ro ++ w) (env := cE b n S (.str x) (some (nD i)) e5 e6 e7) (w := cW b n b2) (k := 6) (k2 := 2) (n := n) (I := fun env v => ∃ e5 e6 e7 b2, env = cE b n S (.str x) (some (nD i)) e5 e6 e7 ∧ v = cW b n b2 ∧ Sq n b2)
      (s := sPut (cBin gIx (cVar 3) (cVar 4)) (cVar 6) (cOr (cBin gIx (cBin gIx (cVar 3) (cVar 4)) (cVar 6)) (cBin gIx (cBin gIx (cVar 3) (cVar 6)) (cVar 4)))) hn rfl ⟨e5, e6, e7, b2, rfl, rfl, h⟩ ?_
    · obtain ⟨env', v', g1, f5, f6, f7, b3, rfl, rfl, g2⟩ := lp
      exact ⟨_, _, g1, Iv _ _ _ _ _ g2⟩
    rintro j hj env v ⟨e5, e6, e7, b2, rfl, rfl, h⟩
    subst hb
    obtain ⟨b3, g1⟩ := rd2 (ro := ro ++ w) (env := cE (ro ++ w).length n S (.str x) (some (nD i)) e5 (some (nD j)) e7) (a := 4) (c := 6) h hi hj rfl rfl rfl
    obtain ⟨b4, g2⟩ := rd2 (ro := ro ++ w) (env := cE (ro ++ w).length n S (.str x) (some (nD i)) e5 (some (nD j)) e7) (a := 6) (c := 4) h hj hi rfl rfl rfl
    obtain ⟨b5, g3, g4⟩ := wr (ro := ro ++ w) (env := cE (ro ++ w).length n S (.str x) (some (nD i)) e5 (some (nD j)) e7) (fv := cOr (cBin gIx (cBin gIx (cVar 3) (cVar 4)) (cVar 6)) (cBin gIx (cBin gIx (cVar 3) (cVar 6)) (cVar 4))) (b := b3 || b4) (a := 4) (c := 6) h hi hj rfl rfl rfl (by
      rw [x_or, g1, an_ok, orV_bl, g2]
      cases b3 <;> rfl)
    exact ⟨_, _, g3, e5, _, e7, b5, rfl, rfl, g4⟩
  have L3 : ∀ env v, cI b n S (.str x) env v → ∃ env' v', (sIf (cTest (cBin gIn (cVar 1) (cTup (cArgs [cK (.str "D"), cK (.str "D4")])))) (sFor (.nm 4) (cRng1 (cArgs [cVar 2])) (sIf (cTest (cBin gNotIn (cK (.bl true)) (cBin gIx (cVar 3) (cVar 4)))) (sPut (cBin gIx (cVar 3) (cVar 4)) (cVar 4) (cK (.bl true))) (sNil))) (sNil)) env (ro ++ w) v = .go .nx env' v' ∧ cI b n S (.str x) env' v' := by
    rintro env v ⟨e4, e5, e6, e7, b2, rfl, rfl, h⟩
    obtain ⟨c, hc⟩ := cond_in (ro := ro ++ w) (env := cE b n S (.str x) e4 e5 e6 e7) (x := x) (k := 1) (ts := [.str "D", .str "D4"]) (fs := cArgs [cK (.str "D"), cK (.str "D4")]) rfl rfl fun w => by simp
    refine if_inv (hc _) (Iv _ _ _ _ _ h) (for_rng (k2 := 2) hn rfl (Iv _ _ _ _ _ h) ?_)
    rintro i hi env v ⟨e4, e5, e6, e7, b2, rfl, rfl, h⟩
    subst hb
    obtain ⟨b3, g1, g2⟩ := wr (ro := ro ++ w) (env := cE (ro ++ w).length n S (.str x) (some (nD i)) e5 e6 e7) (fv := cK (.bl true)) (b := true) (a := 4) (c := 4) h hi hi rfl rfl rfl rfl
    obtain ⟨bs, b0, q1, q2, q3⟩ := h.at hi hi
    have cd : cTest (cBin gNotIn (cK (.bl true)) (cBin gIx (cVar 3) (cVar 4))) (cE (ro ++ w).length n S (.str x) (some (nD i)) e5 e6 e7) (ro ++ w) (cW (ro ++ w).length n b2) = .ok (!(bs.map D.bl).any fun d => d.eqs (.bl true)) (cW (ro ++ w).length n b2) := by
      have : gNotIn (.bl true) (bD bs) (ro ++ w) (cW (ro ++ w).length n b2) = .ok (.bl (!(bs.map D.bl).any fun d => d.eqs (.bl true))) (cW (ro ++ w).length n b2) := by
        refine x_notIn ?_
        have : (bs.map D.bl).all D.sc = true := by simp [D.sc]
        show (if (D.sc (.bl true) && (bs.map D.bl).all D.sc) = true then _ else _) = _
        rw [this]
        rfl
      rw [x_test, x_bin, x_k]
      simp only [an_ok, rd1 h hi (env := cE (ro ++ w).length n S (.str x) (some (nD i)) e5 e6 e7) (a := 4) rfl rfl, see_bl, see_at (cW_row h hi q1), this, bool_bl]
    exact if_inv cd (Iv _ _ _ _ _ h) ⟨_, _, g1, Iv _ _ _ _ _ g2⟩
  have L4 : ∀ env v, cI b n S (.str x) env v → ∃ env' v', (sIf (cTest (cBin gNotIn (cVar 1) (cTup (cArgs [cK (.str "K"), cK (.str "D"), cK (.str "T")])))) (sFor (.nm 5) (cRng1 (cArgs [cVar 2])) (sFor (.nm 4) (cRng1 (cArgs [cVar 2])) (sFor (.nm 6) (cRng1 (cArgs [cVar 2])) (sPut (cBin gIx (cVar 3) (cVar 4)) (cVar 6) (cOr (cBin gIx (cBin gIx (cVar 3) (cVar 4)) (cVar 6)) (cAnd (cBin gIx (cBin gIx (cVar 3) (cVar 4)) (cVar 5)) (cBin gIx (cBin gIx (cVar 3) (cVar 5)) (cVar 6)))))))) (sNil)) env (ro ++ w) v = .go .nx env' v' ∧ cI b n S (.str x) env' v' := by
    rintro env v ⟨e4, e5, e6, e7, b2, rfl, rfl, h⟩
    obtain ⟨c, hc⟩ := cond_notIn (ro := ro ++ w) (env := cE b n S (.str x) e4 e5 e6 e7) (x := x) (k := 1) (ts := [.str "K", .str "D", .str "T"]) (fs := cArgs [cK (.str "K"), cK (.str "D"), cK (.str "T")]) rfl rfl fun w => by simp
    refine if_inv (hc _) (Iv _ _ _ _ _ h) (for_rng (k2 := 2) hn rfl (Iv _ _ _ _ _ h) ?_)
    rintro u hu env v ⟨e4, e5, e6, e7, b2, rfl, rfl, h⟩
    have lo := for_rng (ro := ro ++ w) (env := cE b n S (.str x) e4 (some (nD u)) e6 e7) (w := cW b n b2) (k := 4) (k2 := 2) (n := n) (I := fun env v => ∃ e4 e6 e7 b2, env = cE b n S (.str x) e4 (some (nD u)) e6 e7 ∧ v = cW b n b2 ∧ Sq n b2)
      (s := sFor (.nm 6) (cRng1 (cArgs [cVar 2])) (sPut (cBin gIx (cVar 3) (cVar 4)) (cVar 6) (cOr (cBin gIx (cBin gIx (cVar 3) (cVar 4)) (cVar 6)) (cAnd (cBin gIx (cBin gIx (cVar 3) (cVar 4)) (cVar 5)) (cBin gIx (cBin gIx (cVar 3) (cVar 5)) (cVar 6)))))) hn rfl ⟨e4, e6, e7, b2, rfl, rfl, h⟩ ?_
    · obtain ⟨env', v', g1, f4, f6, f7, b3, rfl, rfl, g2⟩ := lo
      exact ⟨_, _, g1, Iv _ _ _ _ _ g2⟩
    rintro i hi env v ⟨e4, e6, e7, b2, rfl, rfl, h⟩
    have lp := for_rng (ro := ro ++ w) (env := cE b n S (.str x) (some (nD i)) (some (nD u)) e6 e7) (w := cW b n b2) (k := 6) (k2 := 2) (n := n) (I := fun env v => ∃ e6 e7 b2, env = cE b n S (.str x) (some (nD i)) (some (nD u)) e6 e7 ∧ v = cW b n b2 ∧ Sq n b2)
      (s := sPut (cBin gIx (cVar 3) (cVar 4)) (cVar 6) (cOr (cBin gIx (cBin gIx (cVar 3) (cVar 4)) (cVar 6)) (cAnd (cBin gIx (cBin gIx (cVar 3) (cVar 4)) (cVar 5)) (cBin gIx (cBin gIx (cVar 3) (cVar 5)) (cVar 6))))) hn rfl ⟨e6, e7, b2, rfl, rfl, h⟩ ?_
    · obtain ⟨env', v', g1, f6, f7, b3, rfl, rfl, g2⟩ := lp
      exact ⟨_, _, g1, _, _, _, b3, rfl, rfl, g2⟩
    rintro j hj env v ⟨e6, e7, b2, rfl, rfl, h⟩
    subst hb
    obtain ⟨b3, g1⟩ := rd2 (ro := ro ++ w) (env := cE (ro ++ w).length n S (.str x) (some (nD i)) (some (nD u)) (some (nD j)) e7) (a := 4) (c := 6) h hi hj rfl rfl rfl
    obtain ⟨b4, g2⟩ := rd2 (ro := ro ++ w) (env := cE (ro ++ w).length n S (.str x) (some (nD i)) (some (nD u)) (some (nD j)) e7) (a := 4) (c := 5) h hi hu rfl rfl rfl
    obtain ⟨b5, g3⟩ := rd2 (ro := ro ++ w) (env := cE (ro ++ w).length n S (.str x) (some (nD i)) (some (nD u)) (some (nD j)) e7) (a := 5) (c := 6) h hu hj rfl rfl rfl
    obtain ⟨b6, g4, g5⟩ := wr (ro := ro ++ w) (env := cE (ro ++ w).length n S (.str x) (some (nD i)) (some (nD u)) (some (nD j)) e7) (fv := cOr (cBin gIx (cBin gIx (cVar 3) (cVar 4)) (cVar 6)) (cAnd (cBin gIx (cBin gIx (cVar 3) (cVar 4)) (cVar 5)) (cBin gIx (cBin gIx (cVar 3) (cVar 5)) (cVar 6)))) (b := b3 || (b4 && b5)) (a := 4) (c := 6) h hi hj rfl rfl rfl (by
      rw [x_or, g1, an_ok, orV_bl, x_and, g2, an_ok, andV_bl, g3]
      cases b3 <;> cases b4 <;> rfl)
    exact ⟨_, _, g4, _, e7, b6, rfl, rfl, g5⟩
  have run : ∃ b2, runDef 2 8 h_law_closed [S, .str x] (ro ++ w) [] = .ok (.ref (b + n)) (cW b n b2) ∧ Sq n b2 := by
    rw [x_def]
    simp only [List.length_cons, List.length_nil, Nat.zero_add, Nat.reduceAdd, if_true, List.map_cons, List.map_nil, Nat.reduceSub, List.replicate, List.cons_append, List.nil_append]
    unfold h_law_closed
    rw [st1]
    obtain ⟨env1, v1, g1, i1⟩ := L1 _ _ (Iv none none none none bss hq)
    obtain ⟨env2, v2, g2, i2⟩ := L2 _ _ i1
    obtain ⟨env3, v3, g3, i3⟩ := L3 _ _ i2
    obtain ⟨env4, v4, g4, e4, e5, e6, e7, b2, rfl, rfl, i4⟩ := L4 _ _ i3
    refine ⟨b2, ?_, i4⟩
    rw [x_seq, g1, oan_nx, x_seq, g2, oan_nx, x_seq, g3, oan_nx, x_seq, g4, oan_nx, x_ret]
    rfl
  obtain ⟨b2, r, q2⟩ := run
  refine ⟨b2, ?_, q2⟩
  unfold pureD
  simp only [r]
  have w3 : ∀ i ∈ List.range n, D.tell (told b (cW b n b2) 3) (.ref (b + i)) = some (bD (b2[i]?.getD [])) := fun i hi => by
    have hi := List.mem_range.mp hi
    obtain ⟨bs, b0, q1, _, _⟩ := q2.at hi hi
    unfold D.tell
    rw [q1]
    refine (told_at (k := 2) (cW_row q2 hi q1)).trans (tell_self _ ?_)
    exact unders_iff.mpr fun d hd => by obtain ⟨i, _, rfl⟩ := List.mem_map.mp hd; rfl
  have t : D.tell (told (ro ++ w).length (cW b n b2) 4) (.ref (b + n)) = some (.lst (b2.map bD)) := by
    rw [hb]
    unfold D.tell
    rw [show told b (cW b n b2) 4 (b + n) = _ from told_at (k := 3) (cW_refs q2)]
    unfold D.tell
    rw [tells_maps (f := fun i => D.ref (b + i)) (g := fun i => bD (b2[i]?.getD [])) w3]
    have el : (List.range n).map (fun i => bD (b2[i]?.getD [])) = b2.map bD := by
     apply List.ext_getElem?
     intro i
     rw [List.getElem?_map, List.getElem?_map]
     by_cases hi : i < n
     · obtain ⟨bs, b0, q1, _, _⟩ := q2.at hi hi
       rw [q1]
       simp [hi, q1]
     · rw [List.getElem?_eq_none (by simpa using hi), List.getElem?_eq_none (by rw [q2.len]; omega)]
       rfl
    rw [el]
    rfl
  rw [t]
end
end Fx
/-! Models: how the law draws them, continued. -/
namespace Fx
open PySem PySem.Spec L2
def sRow : SF := (sSeq (sSet 11 (cComp (.nm 15) [15] (cRng1 (cArgs [cVar 4])) (cYes) (cBin gEq (cBin gBand (cBin gShr (cVar 5) (cBin gAdd (cBin gMul (cVar 8) (cVar 4)) (cVar 15))) (cK (.int 1))) (cK (.int 1))) kStill))
  (sSeq (sIf (cTest (cBin gIn (cVar 1) (cTup (cArgs [cK (.str "GL"), cK (.str "Grz"), cK (.str "Int"), cK (.str "KC"), cK (.str "LC"), cK (.str "BD2"), cK (.str "HT"), cK (.str "Cl")])))) (sSet 11 (cComp (.nm 15) [15] (cRng1 (cArgs [cVar 4])) (cYes) (cAnd (cBin gIx (cVar 11) (cVar 15)) (cBin gLt (cVar 8) (cVar 15))) kStill)) (sNil))
  (sSeq (sIf (cTest (cBin gIn (cVar 1) (cTup (cArgs [cK (.str "LC"), cK (.str "HT")])))) (sSet 11 (cComp (.nm 15) [15] (cRng1 (cArgs [cVar 4])) (cYes) (cBin gLt (cVar 8) (cVar 15)) kStill)) (sNil))
  (sSeq (sIf (cTest (cBin gIn (cVar 1) (cTup (cArgs [cK (.str "KC")])))) (sSet 11 (cComp (.nm 15) [15] (cRng1 (cArgs [cVar 4])) (cYes) (cOr (cBin gIx (cVar 11) (cVar 15)) (cAnd (cBin gEq (cVar 15) (cBin gSub (cVar 4) (cK (.int 1)))) (cBin gLt (cVar 8) (cVar 15)))) kStill)) (sNil))
  (sSeq (sIf (cTest (cBin gIn (cVar 1) (cTup (cArgs [cK (.str "BD2")])))) (sSet 11 (cComp (.nm 15) [15] (cRng1 (cArgs [cVar 4])) (cYes) (cAnd (cBin gIx (cVar 11) (cVar 15)) (cChain gLt gLe (cVar 8) (cBin gDiv (cVar 4) (cK (.int 2))) (cVar 15))) kStill)) (sNil))
  (sSeq (sIf (cTest (cBin gEq (cVar 1) (cK (.str "Cl")))) (sSet 11 (cBin gMulF (cLst (cArgs [cK (.bl false)])) (cVar 4))) (sNil))
  (sExpr (cMl gAppend (cVar 7) (cArgs [cVar 11])))))))))
def sPqr : SF := (sSeq (sSet 12 (cBin gIx (cK (.str "pqr")) (cVar 10)))
  (sSeq (sSet 13 (cK (.int 0)))
  (sSeq (sIf (cTest (cBin gGt (cCall (one gLen) (cArgs [cVar 0])) (cBin gAdd (cK (.int 3)) (cVar 10)))) (sSet 13 (cBin gMod (cCall (one gInt) (cArgs [cBin gIx (cVar 0) (cBin gAdd (cK (.int 3)) (cVar 10))])) (cBin gShl (cK (.int 1)) (cVar 4)))) (sNil))
  (sSeq (sSet 14 (cComp (.nm 15) [15] (cRng1 (cArgs [cVar 4])) (cTest (cBin gEq (cBin gBand (cBin gShr (cVar 13) (cVar 15)) (cK (.int 1))) (cK (.int 1)))) (cVar 15) kStill))
  (sSeq (sIf (cTest (cBin gIn (cVar 1) (cTup (cArgs [cK (.str "Int"), cK (.str "KC"), cK (.str "LC"), cK (.str "BD2"), cK (.str "HT"), cK (.str "Cl")])))) (sSet 14 (cComp (.nm 15) [15] (cRng1 (cArgs [cVar 4])) (cTest (cBin gIn (cK (.bl true)) (cComp (.nm 8) [8] (cSeq (cVar 14)) (cYes) (cBin gIx (cBin gIx (cVar 7) (cVar 8)) (cVar 15)) kStill))) (cVar 15) kStill)) (sNil))
  (sDPutF (cVar 9) (cVar 12) (cVar 14)))))))
section
variable {ro w : List D} {env : Env}
theorem comp_bools {k : Nat} {fa : EF} : ∀ (l : List Nat), (∀ i ∈ l, ∃ b, fa (env.set k (some (nD i))) ro w = .ok (.bl b) w) → ∃ bs : List Bool, bs.length = l.length ∧ compR (.nm k) cYes fa env (l.map nD) ro w = .ok (bs.map .bl) w
  | [], _ => ⟨[], rfl, rfl⟩
  | i :: l, h => by
    obtain ⟨b, hb⟩ := h i (by simp)
    obtain ⟨bs, h1, h2⟩ := comp_bools l fun j hj => h j (List.mem_cons_of_mem _ hj)
    refine ⟨b :: bs, by simp [h1], ?_⟩
    rw [List.map_cons, comp_nm, x_yes]
    simp [hb, h2]
theorem row_comp {n : Nat} {fa : EF} (hn : n ≤ 1000) (h4 : env[4]? = some (some (nD n))) (h : ∀ i, i < n → ∃ b, fa ((env.set 15 none).set 15 (some (nD i))) ro w = .ok (.bl b) w) :
    ∃ bs : List Bool, bs.length = n ∧ cComp (.nm 15) [15] (cRng1 (cArgs [cVar 4])) cYes fa kStill env ro w = .ok (bD bs) w := by
  have hs : sizeLine = 16777216 := rfl
  obtain ⟨bs, h1, h2⟩ := comp_bools (k := 15) (env := env.set 15 none) (List.range n) fun i hi => h i (List.mem_range.mp hi)
  refine ⟨bs, by simpa using h1, ?_⟩
  have hz : ((List.range n).map nD).length ≤ sizeLine := by simp; omega
  rw [x_comp, rng_it hn h4]
  simp only [an_ok, hz, if_true]
  rw [show wipeE env [15] = env.set 15 none from rfl, h2]
  rfl
theorem row_ix {n i : Nat} {bs : List Bool} (h : bs.length = n) (hi : i < n) : ∃ b, gIx (bD bs) (.int i) ro w = .ok (.bl b) w := by
  refine ⟨bs[i]'(by omega), ?_⟩
  rw [ix_lst, atI_nat]
  simp [show i < bs.length by omega]
theorem bit_at {bi : Int} {m : Nat} : gShr (.int bi) (.int m) ro w = .ok (.int (bi / 2 ^ m)) w := shr_nat
/-- the env of _law_model while a row is made -/
def rE (x : Str) (n : Nat) (bi : Int) (b v : Nat) (a : Nat → Option D) (e11 : Option D) : Env := [a 0, some (.str x), a 2, a 3, some (nD n), some (.int bi), a 6, some (.ref b), some (nD v), a 9, a 10, e11, a 12, a 13, a 14, none]
theorem row_ok {x : Str} {n : Nat} {bi : Int} {v : Nat} {a : Nat → Option D} {bss : List (List Bool)} {e11 : Option D} (hx : SOk x) (hn : n ≤ 1000) (hv : v < n) (hl : bss.length ≤ 1000) :
    ∃ bs : List Bool, bs.length = n ∧ sRow (rE x n bi ro.length v a e11) ro [.lst (bss.map bD)] = .go .nx (rE x n bi ro.length v a (some (bD bs))) [.lst ((bss ++ [bs]).map bD)] := by
  have hs : sizeLine = 16777216 := rfl
  -- one more pass over the row
  have step : ∀ {ta : Env → M Bool} {c : Bool} {fa : EF} {bs : List Bool}, bs.length = n → ta (rE x n bi ro.length v a (some (bD bs))) ro [.lst (bss.map bD)] = .ok c [.lst (bss.map bD)] →
      (∀ i, i < n → ∃ b, fa (((rE x n bi ro.length v a (some (bD bs))).set 15 none).set 15 (some (nD i))) ro [.lst (bss.map bD)] = .ok (.bl b) [.lst (bss.map bD)]) →
      ∃ bs' : List Bool, bs'.length = n ∧ sIf ta (sSet 11 (cComp (.nm 15) [15] (cRng1 (cArgs [cVar 4])) (cYes) fa kStill)) sNil (rE x n bi ro.length v a (some (bD bs))) ro [.lst (bss.map bD)] = .go .nx (rE x n bi ro.length v a (some (bD bs'))) [.lst (bss.map bD)] := by
    intro ta c fa bs hb ht hf
    cases c with
    | false => exact ⟨bs, hb, by rw [x_ifS, ht]; rfl⟩
    | true =>
      obtain ⟨bs', h1, h2⟩ := row_comp (env := rE x n bi ro.length v a (some (bD bs))) hn rfl hf
      refine ⟨bs', h1, ?_⟩
      rw [x_ifS, ht, st_ok, if_pos rfl, x_set, h2]
      rfl
  obtain ⟨b1, h1, g1⟩ := row_comp (ro := ro) (w := [.lst (bss.map bD)]) (env := rE x n bi ro.length v a e11) (fa := cBin gEq (cBin gBand (cBin gShr (cVar 5) (cBin gAdd (cBin gMul (cVar 8) (cVar 4)) (cVar 15))) (cK (.int 1))) (cK (.int 1))) hn rfl fun i hi => by
    have e : ((v : Int) * n + i) = ((v * n + i : Nat) : Int) := by simp
    refine ⟨decide (Builtin.bitAnd (bi / 2 ^ (v * n + i)) 1 = 1), ?_⟩
    have hm : (v : Int).natAbs < 2 ^ 64 ∨ (n : Int).natAbs < 2 ^ 64 := .inl (by omega)
    simp only [rE, List.set_cons_succ, List.set_cons_zero, x_bin, x_var, x_k, List.getElem?_cons_zero, List.getElem?_cons_succ, ofO_ss, an_ok, see_int, mul_int, hm, if_true, add_int, e, bit_at, band_int, eq_int]
  have s1 : ∀ t, (sSeq (sSet 11 (cComp (.nm 15) [15] (cRng1 (cArgs [cVar 4])) (cYes) (cBin gEq (cBin gBand (cBin gShr (cVar 5) (cBin gAdd (cBin gMul (cVar 8) (cVar 4)) (cVar 15))) (cK (.int 1))) (cK (.int 1))) kStill)) t) (rE x n bi ro.length v a e11) ro [.lst (bss.map bD)] = t (rE x n bi ro.length v a (some (bD b1))) ro [.lst (bss.map bD)] := fun t => by
    rw [x_seq, x_set, g1]
    rfl
  obtain ⟨c2, k2⟩ := cond_in (ro := ro) (env := rE x n bi ro.length v a (some (bD b1))) (x := x) (k := 1) (ts := [.str "GL", .str "Grz", .str "Int", .str "KC", .str "LC", .str "BD2", .str "HT", .str "Cl"]) (fs := cArgs [cK (.str "GL"), cK (.str "Grz"), cK (.str "Int"), cK (.str "KC"), cK (.str "LC"), cK (.str "BD2"), cK (.str "HT"), cK (.str "Cl")]) rfl rfl fun w => by simp
  obtain ⟨b2, h2, g2⟩ := step (fa := cAnd (cBin gIx (cVar 11) (cVar 15)) (cBin gLt (cVar 8) (cVar 15))) h1 (k2 _) fun i hi => by
    obtain ⟨b, hb⟩ := row_ix (ro := ro) (w := [.lst (bss.map bD)]) h1 hi
    refine ⟨b && decide ((v : Int) < i), ?_⟩
    simp only [rE, List.set_cons_succ, List.set_cons_zero, x_and, x_bin, x_var, List.getElem?_cons_zero, List.getElem?_cons_succ, ofO_ss, an_ok, see_int, see_lst, hb, andV_bl, lt_int]
    cases b <;> rfl
  obtain ⟨c3, k3⟩ := cond_in (ro := ro) (env := rE x n bi ro.length v a (some (bD b2))) (x := x) (k := 1) (ts := [.str "LC", .str "HT"]) (fs := cArgs [cK (.str "LC"), cK (.str "HT")]) rfl rfl fun w => by simp
  obtain ⟨b3, h3, g3⟩ := step (fa := cBin gLt (cVar 8) (cVar 15)) h2 (k3 _) fun i hi => by
    refine ⟨decide ((v : Int) < i), ?_⟩
    simp only [rE, List.set_cons_succ, List.set_cons_zero, x_bin, x_var, List.getElem?_cons_zero, List.getElem?_cons_succ, ofO_ss, an_ok, see_int, lt_int]
  obtain ⟨c4, k4⟩ := cond_in (ro := ro) (env := rE x n bi ro.length v a (some (bD b3))) (x := x) (k := 1) (ts := [.str "KC"]) (fs := cArgs [cK (.str "KC")]) rfl rfl fun w => by simp
  obtain ⟨b4, h4, g4⟩ := step (fa := cOr (cBin gIx (cVar 11) (cVar 15)) (cAnd (cBin gEq (cVar 15) (cBin gSub (cVar 4) (cK (.int 1)))) (cBin gLt (cVar 8) (cVar 15)))) h3 (k4 _) fun i hi => by
    obtain ⟨b, hb⟩ := row_ix (ro := ro) (w := [.lst (bss.map bD)]) h3 hi
    refine ⟨b || (decide ((i : Int) = n - 1) && decide ((v : Int) < i)), ?_⟩
    simp only [rE, List.set_cons_succ, List.set_cons_zero, x_or, x_and, x_bin, x_var, x_k, List.getElem?_cons_zero, List.getElem?_cons_succ, ofO_ss, an_ok, see_int, see_lst, hb, orV_bl, sub_int, eq_int, andV_bl, lt_int]
    cases b <;> cases decide ((i : Int) = n - 1) <;> rfl
  obtain ⟨c5, k5⟩ := cond_in (ro := ro) (env := rE x n bi ro.length v a (some (bD b4))) (x := x) (k := 1) (ts := [.str "BD2"]) (fs := cArgs [cK (.str "BD2")]) rfl rfl fun w => by simp
  obtain ⟨b5, h5, g5⟩ := step (fa := cAnd (cBin gIx (cVar 11) (cVar 15)) (cChain gLt gLe (cVar 8) (cBin gDiv (cVar 4) (cK (.int 2))) (cVar 15))) h4 (k5 _) fun i hi => by
    obtain ⟨b, hb⟩ := row_ix (ro := ro) (w := [.lst (bss.map bD)]) h4 hi
    have hd : (0 : Int) < 2 ∧ (2 : Int).natAbs < 1073741824 := by decide
    refine ⟨b && (decide ((v : Int) < n / 2) && decide ((n : Int) / 2 ≤ i)), ?_⟩
    simp only [rE, List.set_cons_succ, List.set_cons_zero, x_and, x_chain, x_bin, x_var, x_k, List.getElem?_cons_zero, List.getElem?_cons_succ, ofO_ss, an_ok, see_int, see_lst, hb, div_int, hd, and_self, if_true, andV_bl, lt_int]
    cases b <;> cases decide ((v : Int) < n / 2) <;> simp
  have k6 : ∃ c6, ∀ w, cTest (cBin gEq (cVar 1) (cK (.str "Cl"))) (rE x n bi ro.length v a (some (bD b5))) ro w = .ok c6 w := cond_eq (env := rE x n bi ro.length v a (some (bD b5))) rfl hx ok_lit
  obtain ⟨c6, k6⟩ := k6
  have s6 : ∃ b6 : List Bool, b6.length = n ∧ sIf (cTest (cBin gEq (cVar 1) (cK (.str "Cl")))) (sSet 11 (cBin gMulF (cLst (cArgs [cK (.bl false)])) (cVar 4))) sNil (rE x n bi ro.length v a (some (bD b5))) ro [.lst (bss.map bD)] = .go .nx (rE x n bi ro.length v a (some (bD b6))) [.lst (bss.map bD)] := by
    cases c6 with
    | false => exact ⟨b5, h5, by rw [x_ifS, k6]; rfl⟩
    | true =>
      refine ⟨List.replicate n false, by simp, ?_⟩
      have m : gMulF (.lst [.bl false]) (.int n) ro [.lst (bss.map bD)] = .ok (bD (List.replicate n false)) [.lst (bss.map bD)] := by
        have c : (n : Int).natAbs < 2 ^ 62 ∧ [D.bl false].length * (n : Int).toNat ≤ sizeLine := by simp; omega
        rw [mulF_lst, if_pos c]
        simp [bD]
      rw [x_ifS, k6, st_ok, if_pos rfl, x_set, x_bin]
      simp only [x_lst, x_args, x_args0, x_k, x_var, rE, List.getElem?_cons_zero, List.getElem?_cons_succ, ofO_ss, an_ok, see_lst, see_int, m, st_ok]
      rfl
  obtain ⟨b6, h6, g6⟩ := s6
  have ap := append_at (ro := ro) (w := [.lst (bss.map bD)]) (n := 0) (d := bD b6) rfl (by simp; omega)
  simp only [Nat.add_zero, List.set_cons_zero] at ap
  have s7 : sExpr (cMl gAppend (cVar 7) (cArgs [cVar 11])) (rE x n bi ro.length v a (some (bD b6))) ro [.lst (bss.map bD)] = .go .nx (rE x n bi ro.length v a (some (bD b6))) [.lst ((bss ++ [b6]).map bD)] := by
    rw [x_expr, x_ml]
    simp only [rE, x_var, List.getElem?_cons_zero, List.getElem?_cons_succ, ofO_ss, an_ok, see_at0, mlV_lst, x_args, x_args0, ap, st_ok]
    simp
  refine ⟨b6, h6, ?_⟩
  unfold sRow
  rw [s1, x_seq, g2, oan_nx, x_seq, g3, oan_nx, x_seq, g4, oan_nx, x_seq, g5, oan_nx, x_seq, g6, oan_nx, s7]
end
def hM (c_law_closed : List D → M D) : SF :=
  sSeq (sSet 3 (cK (.int 0)))
  (sSeq (sIf (cTest (cBin gNe (cVar 0) (cLst (cArgs [])))) (sSet 3 (cCall (one gInt) (cArgs [cBin gIx (cVar 0) (cK (.int 0))]))) (sNil))
  (sSeq (sSet 4 (cBin gAdd (cK (.int 1)) (cBin gMod (cVar 3) (cVar 2))))
  (sSeq (sSet 5 (cBin gDiv (cVar 3) (cK (.int 8))))
  (sSeq (sFor (.nm 6) (cSeq (cSl (cVar 0) (cPart (cK (.int 1))) (cPart (cK (.int 3))))) (sSet 5 (cBin gAdd (cBin gMul (cVar 5) (cK (.int 4096))) (cCall (one gInt) (cArgs [cVar 6])))))
  (sSeq (sTell (sSeq (sSet 7 (cLstM (cArgs []))) (sFor (.nm 8) (cRng1 (cArgs [cVar 4])) sRow)))
  (sSeq (sIf (cAndT (cTest (cBin gEq (cVar 1) (cK (.str "HT")))) (cTest (cBin gGt (cVar 4) (cK (.int 2))))) (sSet 7 (cComp (.nm 8) [8] (cRng1 (cArgs [cVar 4])) (cYes) (cComp (.nm 15) [15] (cRng1 (cArgs [cVar 4])) (cYes) (cAnd (cBin gLt (cVar 8) (cVar 15)) (cBin gEq (cBin gDiv (cVar 8) (cK (.int 2))) (cBin gDiv (cVar 15) (cK (.int 2))))) kStill) kStill)) (sNil))
  (sSeq (sSet 7 (cCall (fun ds => if ds.length = 2 then c_law_closed ds else M.no) (cArgs [cVar 7, cVar 1])))
  (sSeq (sSet 9 (cDNew))
  (sSeq (sFor (.nm 10) (cRng1 (cArgs [cK (.int 3)])) sPqr)
  (sRet (cTup (cArgs [cVar 7, cVar 9]))))))))))))

theorem hM_eq : @h_law_model = @hM := rfl
theorem pqr_0 {ro w : List D} : gIx (.str "pqr") (.int 0) ro w = .ok (.str "p") w := rfl
theorem pqr_1 {ro w : List D} : gIx (.str "pqr") (.int 1) ro w = .ok (.str "q") w := rfl
theorem pqr_2 {ro w : List D} : gIx (.str "pqr") (.int 2) ro w = .ok (.str "r") w := rfl
section
variable {ro w : List D} {env : Env}
theorem for_cnt {k N : Nat} {s : SF} {I : Nat → Env → List D → Prop} : ∀ (l : List Nat) (c : Nat) (env : Env) (w : List D), c + l.length ≤ N → I c env w → (∀ i ∈ l, ∀ c env w, c < N → I c env w → ∃ env' w', s (env.set k (some (nD i))) ro w = .go .nx env' w' ∧ I (c + 1) env' w') →
    ∃ env' w', forL (.nm k) s (l.map nD) env ro w = .go .nx env' w' ∧ I (c + l.length) env' w'
  | [], c, env, w, _, h, _ => ⟨env, w, rfl, h⟩
  | i :: l, c, env, w, hN, h, hs => by
    rw [List.length_cons] at hN
    obtain ⟨env1, w1, h1, h2⟩ := hs i (by simp) c env w (by omega) h
    obtain ⟨env2, w2, h3, h4⟩ := for_cnt l (c + 1) env1 w1 (by omega) h2 fun j hj => hs j (List.mem_cons_of_mem _ hj)
    refine ⟨env2, w2, by rw [List.map_cons, for_nm, h1, tn_nx, h3], ?_⟩
    rw [List.length_cons, show c + (l.length + 1) = c + 1 + l.length by omega]
    exact h4
theorem comp_filtE {k : Nat} {ta : Env → M Bool} (hk : k < env.length) : ∀ (l : List Nat), (∀ i ∈ l, ∃ b, ta (env.set k (some (nD i))) ro w = .ok b w) → ∃ l' : List Nat, l'.Sublist l ∧ compR (.nm k) ta (cVar k) env (l.map nD) ro w = .ok (l'.map nD) w
  | [], _ => ⟨[], List.Sublist.refl _, rfl⟩
  | i :: l, h => by
    obtain ⟨b, hb⟩ := h i (by simp)
    obtain ⟨l', h1, h2⟩ := comp_filtE hk l fun j hj => h j (List.mem_cons_of_mem _ hj)
    cases b with
    | true =>
      refine ⟨i :: l', h1.cons_cons i, ?_⟩
      rw [List.map_cons, comp_nm]
      simp [hb, h2, List.getElem?_set_self hk]
    | false =>
      refine ⟨l', h1.cons i, ?_⟩
      rw [List.map_cons, comp_nm]
      simp [hb, h2]
def Tl (o : Option D) : Prop := ∀ φ, o.bind (D.tell φ) = o
theorem tl_none : Tl none := fun φ => rfl
theorem tl_self {d : D} (h : D.under 0 d = true) : Tl (some d) := fun φ => tell_self d h
theorem under_b {bs : List Bool} {k : Nat} : D.under k (bD bs) = true := unders_iff.mpr fun d hd => by obtain ⟨i, _, rfl⟩ := List.mem_map.mp hd; rfl
theorem under_bb {bss : List (List Bool)} {k : Nat} : D.under k (.lst (bss.map bD)) = true := unders_iff.mpr fun d hd => by obtain ⟨i, _, rfl⟩ := List.mem_map.mp hd; exact under_b
/-- the env of _law_model -/
def mE (k : Nat) (x : Str) (mo fi : Int) (n : Nat) (bi : Int) (e6 e7 e8 e9 e10 e11 e12 e13 e14 : Option D) : Env := [some (.ref k), some (.str x), some (.int mo), some (.int fi), some (nD n), some (.int bi), e6, e7, e8, e9, e10, e11, e12, e13, e14, none]
theorem rows_made {k : Nat} {x : Str} {mo fi bi : Int} {n : Nat} {e6 : Option D} (hx : SOk x) (hn : n ≤ 1000) (hk : k < ro.length) (h6 : Tl e6) :
    ∃ (bss : List (List Bool)) (e8 e11 : Option D), Sq n bss ∧ sTell (sSeq (sSet 7 (cLstM (cArgs []))) (sFor (.nm 8) (cRng1 (cArgs [cVar 4])) sRow)) (mE k x mo fi n bi e6 none none none none none none none none) ro [] = .go .nx (mE k x mo fi n bi e6 (some (.lst (bss.map bD))) e8 none none e11 none none none) [] := by
  obtain ⟨env', w', g, e8, e11, bss, rfl, rfl, hl, ha, t8, t11⟩ := for_cnt (ro := ro) (k := 8) (N := n) (s := sRow) (I := fun c env w => ∃ (e8 e11 : Option D) (bss : List (List Bool)), env = mE k x mo fi n bi e6 (some (.ref ro.length)) e8 none none e11 none none none ∧ w = [.lst (bss.map bD)] ∧ bss.length = c ∧ (∀ bs ∈ bss, bs.length = n) ∧ Tl e8 ∧ Tl e11) (List.range n) 0
    (mE k x mo fi n bi e6 (some (.ref ro.length)) none none none none none none none) [.lst []] (by simp) ⟨none, none, [], rfl, rfl, rfl, by simp, tl_none, tl_none⟩ (by
      rintro v hv c env w hc ⟨e8, e11, bss, rfl, rfl, hl, ha, t8, t11⟩
      have hv := List.mem_range.mp hv
      obtain ⟨bs, g1, g2⟩ := row_ok (ro := ro) (x := x) (n := n) (bi := bi) (v := v) (a := fun j => if j = 0 then some (.ref k) else if j = 2 then some (.int mo) else if j = 3 then some (.int fi) else if j = 6 then e6 else none) (bss := bss) (e11 := e11) hx hn hv (by omega)
      refine ⟨_, _, g2, some (nD v), some (bD bs), bss ++ [bs], rfl, rfl, by simp [hl], fun b hb => ?_, tl_self rfl, tl_self under_b⟩
      rcases List.mem_append.mp hb with hb | hb
      · exact ha b hb
      · rw [List.mem_singleton.mp hb]
        exact g1)
  rw [Nat.zero_add, List.length_range] at hl
  refine ⟨bss, e8, e11, ⟨hl, ha⟩, ?_⟩
  have run : (sSeq (sSet 7 (cLstM (cArgs []))) (sFor (.nm 8) (cRng1 (cArgs [cVar 4])) sRow)) (mE k x mo fi n bi e6 none none none none none none none none) ro [] = .go .nx (mE k x mo fi n bi e6 (some (.ref ro.length)) e8 none none e11 none none none) [.lst (bss.map bD)] := by
    rw [x_seq, x_set, x_lstM]
    simp only [x_args0, an_ok, st_ok, oan_nx, List.length_nil, Nat.add_zero, List.nil_append]
    rw [x_for, rng_it hn rfl, st_ok]
    exact g
  have hc : cutW ro.length ([] : List D).length [.lst (bss.map bD)] = some [] := by
    unfold cutW
    simp
  rw [x_tell run hc]
  congr 1
  unfold tellE mE
  simp only [List.map_cons, List.map_nil, List.length_nil, Nat.add_zero, List.drop_zero, h6 _, t8 _, t11 _]
  have tk : told ro.length [.lst (bss.map bD)] 4 k = some (.ref k) := by
    unfold told
    rw [if_pos hk]
  have tr : told ro.length [.lst (bss.map bD)] 4 ro.length = some (.lst (bss.map bD)) := by
    exact (told_at (b := ro.length) (k := 3) (m := 0) (w := [.lst (bss.map bD)]) rfl).trans (tell_self _ under_bb)
  simp only [Option.bind_some, Option.bind_none, D.tell, tk, tr]
/-! ### the values -/
theorem sub_ns {n : Nat} {l : List Nat} (h : l.Sublist (List.range n)) : l.Pairwise (· < ·) ∧ ∀ i ∈ l, i < n :=
  ⟨List.Pairwise.sublist h List.pairwise_lt_range, fun i hi => List.mem_range.mp (h.subset hi)⟩
theorem filt_comp {n : Nat} {ta : Env → M Bool} (hn : n ≤ 1000) (hl : env.length = 16) (h4 : env[4]? = some (some (nD n))) (h : ∀ i, i < n → ∃ b, ta ((env.set 15 none).set 15 (some (nD i))) ro w = .ok b w) :
    ∃ l : List Nat, l.Sublist (List.range n) ∧ cComp (.nm 15) [15] (cRng1 (cArgs [cVar 4])) ta (cVar 15) kStill env ro w = .ok (nsD l) w := by
  have hs : sizeLine = 16777216 := rfl
  obtain ⟨l, h1, h2⟩ := comp_filtE (k := 15) (env := env.set 15 none) (by simp [hl]) (List.range n) fun i hi => h i (List.mem_range.mp hi)
  refine ⟨l, h1, ?_⟩
  have hz : ((List.range n).map nD).length ≤ sizeLine := by simp; omega
  rw [x_comp, rng_it hn h4]
  simp only [an_ok, hz, if_true]
  rw [show wipeE env [15] = env.set 15 none from rfl, h2]
  rfl
theorem pqr_step {k : Nat} {x : Str} {mo fi bi : Int} {n j : Nat} {e6 e8 e11 e12 e13 e14 : Option D} {bss : List (List Bool)} {ns : List Int} {v : List (Str × List Nat)} {y : Str} (hx : SOk x) (hn : n ≤ 1000) (hq : Sq n bss) (hN : ∀ v, see ro v (.ref k) = .lst (ns.map .int)) (hns : ns.length = 6) (hj : j < 3)
    (hy : ∀ w, gIx (.str "pqr") (.int j) ro w = .ok (.str y) w) (hv : y ∉ v.map (·.1)) (hv2 : v.length < 1000) :
    ∃ (l : List Nat) (e12' e13' e14' : Option D), l.Sublist (List.range n) ∧ sPqr (mE k x mo fi n bi e6 (some (.lst (bss.map bD))) e8 (some (.ref ro.length)) (some (nD j)) e11 e12 e13 e14) ro [vD v] =
      .go .nx (mE k x mo fi n bi e6 (some (.lst (bss.map bD))) e8 (some (.ref ro.length)) (some (nD j)) e11 e12' e13' e14') [vD (v ++ [(y, l)])] := by
  have hs : sizeLine = 16777216 := rfl
  have hjn : 3 + j < ns.length := by omega
  have s12 : ∀ t, (sSeq (sSet 12 (cBin gIx (cK (.str "pqr")) (cVar 10))) t) (mE k x mo fi n bi e6 (some (.lst (bss.map bD))) e8 (some (.ref ro.length)) (some (nD j)) e11 e12 e13 e14) ro [vD v] = t (mE k x mo fi n bi e6 (some (.lst (bss.map bD))) e8 (some (.ref ro.length)) (some (nD j)) e11 (some (.str y)) e13 e14) ro [vD v] := fun t => by
    rw [x_seq, x_set]
    simp only [mE, x_bin, x_k, x_var, List.getElem?_cons_zero, List.getElem?_cons_succ, ofO_ss, an_ok, see_str, see_int, hy, st_ok, oan_nx, List.set_cons_succ, List.set_cons_zero]
  have s13 : ∀ t, (sSeq (sSet 13 (cK (.int 0))) t) (mE k x mo fi n bi e6 (some (.lst (bss.map bD))) e8 (some (.ref ro.length)) (some (nD j)) e11 (some (.str y)) e13 e14) ro [vD v] = t (mE k x mo fi n bi e6 (some (.lst (bss.map bD))) e8 (some (.ref ro.length)) (some (nD j)) e11 (some (.str y)) (some (.int 0)) e14) ro [vD v] := fun t => by
    rw [x_seq, x_set]
    simp only [mE, x_k, st_ok, oan_nx, List.set_cons_succ, List.set_cons_zero]
  have s13b : ∃ ma : Int, ∀ t, (sSeq (sIf (cTest (cBin gGt (cCall (one gLen) (cArgs [cVar 0])) (cBin gAdd (cK (.int 3)) (cVar 10)))) (sSet 13 (cBin gMod (cCall (one gInt) (cArgs [cBin gIx (cVar 0) (cBin gAdd (cK (.int 3)) (cVar 10))])) (cBin gShl (cK (.int 1)) (cVar 4)))) (sNil)) t) (mE k x mo fi n bi e6 (some (.lst (bss.map bD))) e8 (some (.ref ro.length)) (some (nD j)) e11 (some (.str y)) (some (.int 0)) e14) ro [vD v] = t (mE k x mo fi n bi e6 (some (.lst (bss.map bD))) e8 (some (.ref ro.length)) (some (nD j)) e11 (some (.str y)) (some (.int ma)) e14) ro [vD v] := by
    refine ⟨ns[3 + j] % (1 * 2 ^ n), fun t => ?_⟩
    have h1 : (3 : Int) + j < 6 := by omega
    have h2 : gIx (.lst (ns.map D.int)) (.int (3 + j)) ro [vD v] = .ok (.int ns[3 + j]) [vD v] := by
      rw [ix_lst, show (3 : Int) + j = ((3 + j : Nat) : Int) by simp, atI_nat]
      simp [hjn]
    have h3 : gShl (.int 1) (nD n) ro [vD v] = .ok (.int (1 * 2 ^ n)) [vD v] := shl_nat (by omega) (by decide)
    have h4 : (0 : Int) < 1 * 2 ^ n := by
      have : (0 : Int) < 2 ^ n := Int.pow_pos (by decide)
      omega
    rw [x_seq, x_ifS, x_test]
    simp only [mE, x_bin, x_call, x_args, x_args0, x_k, x_var, List.getElem?_cons_zero, List.getElem?_cons_succ, ofO_ss, an_ok, x_one, hN, len_lst, List.length_map, hns, see_int, add_int, gt_int, bool_bl, st_ok]
    simp only [show ((6 : Nat) : Int) = 6 from rfl, h1, decide_true, if_true, x_set, x_bin, x_call, x_args, x_args0, x_k, x_var, List.getElem?_cons_zero, List.getElem?_cons_succ, ofO_ss, an_ok, x_one, hN, see_int, add_int, h2, int_int, h3, mod_int, h4, st_ok, oan_nx, List.set_cons_succ, List.set_cons_zero]
  obtain ⟨ma, s13b⟩ := s13b
  obtain ⟨l1, k1, g1⟩ := filt_comp (ro := ro) (w := [vD v]) (env := mE k x mo fi n bi e6 (some (.lst (bss.map bD))) e8 (some (.ref ro.length)) (some (nD j)) e11 (some (.str y)) (some (.int ma)) e14) (ta := cTest (cBin gEq (cBin gBand (cBin gShr (cVar 13) (cVar 15)) (cK (.int 1))) (cK (.int 1)))) hn rfl rfl fun i hi => by
    refine ⟨decide (Builtin.bitAnd (ma / 2 ^ i) 1 = 1), ?_⟩
    simp only [mE, List.set_cons_succ, List.set_cons_zero, x_test, x_bin, x_var, x_k, List.getElem?_cons_zero, List.getElem?_cons_succ, ofO_ss, an_ok, see_int, bit_at, band_int, eq_int, bool_bl]
  have s14 : ∀ t, (sSeq (sSet 14 (cComp (.nm 15) [15] (cRng1 (cArgs [cVar 4])) (cTest (cBin gEq (cBin gBand (cBin gShr (cVar 13) (cVar 15)) (cK (.int 1))) (cK (.int 1)))) (cVar 15) kStill)) t) (mE k x mo fi n bi e6 (some (.lst (bss.map bD))) e8 (some (.ref ro.length)) (some (nD j)) e11 (some (.str y)) (some (.int ma)) e14) ro [vD v] = t (mE k x mo fi n bi e6 (some (.lst (bss.map bD))) e8 (some (.ref ro.length)) (some (nD j)) e11 (some (.str y)) (some (.int ma)) (some (nsD l1))) ro [vD v] := fun t => by
    rw [x_seq, x_set, g1]
    rfl
  obtain ⟨c, kc⟩ := cond_in (ro := ro) (env := mE k x mo fi n bi e6 (some (.lst (bss.map bD))) e8 (some (.ref ro.length)) (some (nD j)) e11 (some (.str y)) (some (.int ma)) (some (nsD l1))) (x := x) (k := 1) (ts := [.str "Int", .str "KC", .str "LC", .str "BD2", .str "HT", .str "Cl"]) (fs := cArgs [cK (.str "Int"), cK (.str "KC"), cK (.str "LC"), cK (.str "BD2"), cK (.str "HT"), cK (.str "Cl")]) rfl rfl fun w => by simp
  have s15 : ∃ l2 : List Nat, l2.Sublist (List.range n) ∧ ∀ t, (sSeq (sIf (cTest (cBin gIn (cVar 1) (cTup (cArgs [cK (.str "Int"), cK (.str "KC"), cK (.str "LC"), cK (.str "BD2"), cK (.str "HT"), cK (.str "Cl")])))) (sSet 14 (cComp (.nm 15) [15] (cRng1 (cArgs [cVar 4])) (cTest (cBin gIn (cK (.bl true)) (cComp (.nm 8) [8] (cSeq (cVar 14)) (cYes) (cBin gIx (cBin gIx (cVar 7) (cVar 8)) (cVar 15)) kStill))) (cVar 15) kStill)) (sNil)) t) (mE k x mo fi n bi e6 (some (.lst (bss.map bD))) e8 (some (.ref ro.length)) (some (nD j)) e11 (some (.str y)) (some (.int ma)) (some (nsD l1))) ro [vD v] = t (mE k x mo fi n bi e6 (some (.lst (bss.map bD))) e8 (some (.ref ro.length)) (some (nD j)) e11 (some (.str y)) (some (.int ma)) (some (nsD l2))) ro [vD v] := by
    cases c with
    | false => exact ⟨l1, k1, fun t => by rw [x_seq, x_ifS, kc]; rfl⟩
    | true =>
      obtain ⟨l2, k2, g2⟩ := filt_comp (ro := ro) (w := [vD v]) (env := mE k x mo fi n bi e6 (some (.lst (bss.map bD))) e8 (some (.ref ro.length)) (some (nD j)) e11 (some (.str y)) (some (.int ma)) (some (nsD l1))) (ta := cTest (cBin gIn (cK (.bl true)) (cComp (.nm 8) [8] (cSeq (cVar 14)) (cYes) (cBin gIx (cBin gIx (cVar 7) (cVar 8)) (cVar 15)) kStill))) hn rfl rfl fun i hi => by
        obtain ⟨bs, hb1, hb2⟩ := comp_bools (ro := ro) (w := [vD v]) (k := 8) (env := mE k x mo fi n bi e6 (some (.lst (bss.map bD))) none (some (.ref ro.length)) (some (nD j)) e11 (some (.str y)) (some (.int ma)) (some (nsD l1)) |>.set 15 (some (nD i))) (fa := cBin gIx (cBin gIx (cVar 7) (cVar 8)) (cVar 15)) l1 fun u hu => by
          obtain ⟨bs, b, q1, q2, q3⟩ := hq.at ((sub_ns k1).2 u hu) hi
          refine ⟨b, ?_⟩
          have i1 : gIx (.lst (bss.map bD)) (nD u) ro [vD v] = .ok (bD bs) [vD v] := by
            rw [ix_lst, atI_nat, List.getElem?_map, q1]
            rfl
          have i2 : gIx (bD bs) (nD i) ro [vD v] = .ok (.bl b) [vD v] := by
            rw [ix_lst, atI_nat, List.getElem?_map, q3]
            rfl
          simp only [mE, List.set_cons_succ, List.set_cons_zero, x_bin, x_var, List.getElem?_cons_zero, List.getElem?_cons_succ, ofO_ss, an_ok, see_lst, see_int, i1, i2]
        refine ⟨(bs.map D.bl).any fun d => d.eqs (.bl true), ?_⟩
        have hz : (l1.map nD).length ≤ sizeLine := by
          have := k1.length_le
          rw [List.length_range] at this
          rw [List.length_map]
          omega
        have gi : gIn (.bl true) (bD bs) ro [vD v] = .ok (.bl ((bs.map D.bl).any fun d => d.eqs (.bl true))) [vD v] := by
          refine x_in ?_
          have : (bs.map D.bl).all D.sc = true := by simp [D.sc]
          show (if (D.sc (.bl true) && (bs.map D.bl).all D.sc) = true then _ else _) = _
          rw [this]
          rfl
        rw [x_test, x_bin, x_k]
        simp only [an_ok]
        rw [x_comp]
        simp only [x_seqI, x_var, mE, List.set_cons_succ, List.set_cons_zero, List.getElem?_cons_zero, List.getElem?_cons_succ, ofO_ss, an_ok, seqV_lst, hz, if_true]
        simp only [mE, List.set_cons_succ, List.set_cons_zero] at hb2
        rw [show wipeE ([some (.ref k), some (.str x), some (.int mo), some (.int fi), some (nD n), some (.int bi), e6, some (.lst (bss.map bD)), e8, some (.ref ro.length), some (nD j), e11, some (.str y), some (.int ma), some (nsD l1), some (nD i)] : Env) [8] = [some (.ref k), some (.str x), some (.int mo), some (.int fi), some (nD n), some (.int bi), e6, some (.lst (bss.map bD)), none, some (.ref ro.length), some (nD j), e11, some (.str y), some (.int ma), some (nsD l1), some (nD i)] from rfl, hb2]
        simp only [an_ok, x_still, see_bl, see_lst, gi, bool_bl]
      exact ⟨l2, k2, fun t => by
        rw [x_seq, x_ifS, kc, st_ok, if_pos rfl, x_set, g2]
        rfl⟩
  obtain ⟨l2, k2, s15⟩ := s15
  have hl : (vks v).length < sizeLine := by simp [vks]; omega
  have d1 := dput_at (ro := ro) (w := [vD v]) (n := 0) (v := nsD l2) (k := .str y) (ks := vks v) (xs := vxs v) rfl (by simp) hl
  have d2 : dput (vks v) (vxs v) (.str y) (nsD l2) = vD (v ++ [(y, l2)]) := by
    unfold dput
    rw [dhas_v hv, vD_eq]
    simp [vks, vxs]
  rw [d2] at d1
  simp only [Nat.add_zero, List.set_cons_zero] at d1
  refine ⟨l2, some (.str y), some (.int ma), some (nsD l2), k2, ?_⟩
  unfold sPqr
  rw [s12, s13, s13b, s14, s15, x_dput]
  simp only [mE, x_var, List.getElem?_cons_zero, List.getElem?_cons_succ, ofO_ss, st_ok, d1]
/-! ### the whole -/
def ofRows (n : Nat) (bss : List (List Bool)) (v : List (Str × List Nat)) : Mo := ⟨n, fun i j => ((bss[i]?.getD [])[j]?.getD false), v⟩
theorem rows_seen {n : Nat} {bss : List (List Bool)} {v : List (Str × List Nat)} (h : Sq n bss) : seenD (ofRows n bss v) = .lst (bss.map bD) := by
  unfold seenD ofRows
  congr 1
  apply List.ext_getElem?
  intro i
  rw [List.getElem?_map, List.getElem?_map]
  by_cases hi : i < n
  · obtain ⟨bs, e1, e2⟩ : ∃ bs, bss[i]? = some bs ∧ bs.length = n := by
      have h1 : bss[i]? = some (bss[i]'(by rw [h.len]; exact hi)) := List.getElem?_eq_getElem _
      exact ⟨_, h1, h.all _ (List.mem_of_getElem? h1)⟩
    rw [e1, List.getElem?_range hi]
    simp only [Option.map_some]
    have el : (List.range n).map (fun j => D.bl (((bss[i]?.getD [])[j]?).getD false)) = bs.map D.bl := by
      rw [e1]
      simp only [Option.getD_some]
      apply List.ext_getElem?
      intro j
      rw [List.getElem?_map, List.getElem?_map]
      by_cases hj : j < n
      · have e3 : bs[j]? = some (bs[j]'(by omega)) := List.getElem?_eq_getElem _
        rw [List.getElem?_range hj, e3]
        simp [e3]
      · rw [List.getElem?_eq_none (l := List.range n) (by simpa using hj), List.getElem?_eq_none (l := bs) (by omega)]
        rfl
    rw [el]
  · rw [List.getElem?_eq_none (l := List.range n) (by simpa using hi), List.getElem?_eq_none (l := bss) (by rw [h.len]; omega)]
    rfl
theorem cut13 {α : Type} {a b c : α} {r : List α} : cut (a :: b :: c :: r) (some 1) (some 3) = [b, c] := by
  have h1 : HT.sIx (a :: b :: c :: r).length 0 (some 1) = 1 := by
    have := HT.sIx_nat (a :: b :: c :: r).length 0 1
    simp only [List.length_cons] at this ⊢
    refine this.trans ?_
    omega
  have h3 : HT.sIx (a :: b :: c :: r).length (a :: b :: c :: r).length (some 3) = 3 := by
    have := HT.sIx_nat (a :: b :: c :: r).length (a :: b :: c :: r).length 3
    simp only [List.length_cons] at this ⊢
    refine this.trans ?_
    omega
  unfold cut
  rw [h1, h3]
  rfl
/-- a drawn model: three names -/
structure Drawn (most : Nat) (A : Mo) : Prop where
  good : A.Good
  most : A.n ≤ most
  names : A.v.map (·.1) = (["p", "q", "r"] : List Str)
theorem drawn_of {n most : Nat} {bss : List (List Bool)} {l1 l2 l3 : List Nat} (h0 : 0 < n) (hm : n ≤ most) (h7 : most ≤ 7) (k1 : l1.Sublist (List.range n)) (k2 : l2.Sublist (List.range n)) (k3 : l3.Sublist (List.range n)) : Drawn most (ofRows n bss [("p", l1), ("q", l2), ("r", l3)]) :=
  ⟨⟨h0, by show n < 8; omega, by simp [ofRows, ofString_inj], fun p hp => by
    simp only [ofRows, List.mem_cons, List.not_mem_nil, or_false] at hp
    rcases hp with rfl | rfl | rfl
    · exact sub_ns k1
    · exact sub_ns k2
    · exact sub_ns k3, by simp [ofRows]⟩, hm, rfl⟩
theorem comp_ex {k : Nat} {fa : EF} {Q : D → Prop} : ∀ (l : List Nat), (∀ i ∈ l, ∃ d, fa (env.set k (some (nD i))) ro w = .ok d w ∧ Q d) → ∃ ds : List D, ds.length = l.length ∧ compR (.nm k) cYes fa env (l.map nD) ro w = .ok ds w ∧ ∀ d ∈ ds, Q d
  | [], _ => ⟨[], rfl, rfl, by simp⟩
  | i :: l, h => by
    obtain ⟨d, hd, hq⟩ := h i (by simp)
    obtain ⟨ds, h1, h2, h3⟩ := comp_ex l fun j hj => h j (List.mem_cons_of_mem _ hj)
    refine ⟨d :: ds, by simp [h1], ?_, fun z hz => ?_⟩
    · rw [List.map_cons, comp_nm, x_yes]
      simp [hd, h2]
    · rcases List.mem_cons.mp hz with rfl | hz
      · exact hq
      · exact h3 z hz
theorem all_rows {n : Nat} : ∀ {ds : List D}, (∀ d ∈ ds, ∃ bs : List Bool, bs.length = n ∧ d = bD bs) → ∃ bss : List (List Bool), ds = bss.map bD ∧ ∀ bs ∈ bss, bs.length = n
  | [], _ => ⟨[], rfl, by simp⟩
  | d :: ds, h => by
    obtain ⟨bs, h1, rfl⟩ := h d (by simp)
    obtain ⟨bss, rfl, h2⟩ := all_rows fun d hd => h d (List.mem_cons_of_mem _ hd)
    exact ⟨bs :: bss, rfl, fun b hb => by
      rcases List.mem_cons.mp hb with rfl | hb
      · exact h1
      · exact h2 b hb⟩
theorem comp_rows {k n : Nat} {fa : EF} (l : List Nat) (h : ∀ i ∈ l, ∃ bs : List Bool, bs.length = n ∧ fa (env.set k (some (nD i))) ro w = .ok (bD bs) w) : ∃ bss : List (List Bool), bss.length = l.length ∧ (∀ bs ∈ bss, bs.length = n) ∧ compR (.nm k) cYes fa env (l.map nD) ro w = .ok (bss.map bD) w := by
  obtain ⟨ds, h1, h2, h3⟩ := comp_ex (ro := ro) (w := w) (env := env) (k := k) (fa := fa) (Q := fun d => ∃ bs : List Bool, bs.length = n ∧ d = bD bs) l fun i hi => by
    obtain ⟨bs, g1, g2⟩ := h i hi
    exact ⟨_, g2, bs, g1, rfl⟩
  obtain ⟨bss, rfl, g⟩ := all_rows h3
  exact ⟨bss, by simpa using h1, g, h2⟩
def ModelSpec (f : List D → M D) : Prop := ∀ (k : Nat) (ns : List Int) (x : Str) (most : Nat) (ro w : List D), k < (ro ++ w).length → (∀ v, see (ro ++ w) v (.ref k) = .lst (ns.map .int)) → ns.length = 6 → (∀ i ∈ ns, 0 ≤ i) → SOk x → 0 < most → most ≤ 7 →
  ∃ A, Drawn most A ∧ f [.ref k, .str x, .int most] ro w = .ok A.lawD w
theorem model_ok {cc : List D → M D} (hc : ∀ n, n ≤ 1000 → ClosedSpec n cc) : ModelSpec (pureD (runDef 3 16 (h_law_model cc))) := by
  intro k ns x most ro w hk hN hns hpos hx hm0 hm7
  generalize hR : ro ++ w = R at hk hN
  have hs : sizeLine = 16777216 := rfl
  obtain ⟨a0, a1, a2, r, rfl⟩ : ∃ a0 a1 a2 r, ns = a0 :: a1 :: a2 :: r := by
    match ns, hns with
    | a0 :: a1 :: a2 :: r, _ => exact ⟨a0, a1, a2, r, rfl⟩
  have p0 : 0 ≤ a0 := hpos a0 (by simp)
  have hn0 : ∃ n : Nat, 1 + a0 % most = (n : Int) ∧ 0 < n ∧ n ≤ most := by
    have h1 := Int.emod_nonneg a0 (show (most : Int) ≠ 0 by omega)
    have h2 := Int.emod_lt_of_pos a0 (show (0 : Int) < most by omega)
    exact ⟨(1 + a0 % most).toNat, by omega, by omega, by omega⟩
  obtain ⟨n, en, n0, nm⟩ := hn0
  have hn : n ≤ 1000 := by omega
  -- up to the loop over two numbers
  have st1 : ∀ t, (sSeq (sSet 3 (cK (.int 0))) (sSeq (sIf (cTest (cBin gNe (cVar 0) (cLst (cArgs [])))) (sSet 3 (cCall (one gInt) (cArgs [cBin gIx (cVar 0) (cK (.int 0))]))) (sNil)) (sSeq (sSet 4 (cBin gAdd (cK (.int 1)) (cBin gMod (cVar 3) (cVar 2)))) (sSeq (sSet 5 (cBin gDiv (cVar 3) (cK (.int 8))))
      (sSeq (sFor (.nm 6) (cSeq (cSl (cVar 0) (cPart (cK (.int 1))) (cPart (cK (.int 3))))) (sSet 5 (cBin gAdd (cBin gMul (cVar 5) (cK (.int 4096))) (cCall (one gInt) (cArgs [cVar 6]))))) t))))) [some (.ref k), some (.str x), some (.int most), none, none, none, none, none, none, none, none, none, none, none, none, none] R [] =
      t (mE k x most a0 n ((a0 / 8 * 4096 + a1) * 4096 + a2) (some (.int a2)) none none none none none none none none) R [] := fun t => by
    have q1 : gNe (.lst (D.int a0 :: D.int a1 :: D.int a2 :: r.map D.int)) (.lst []) R [] = .ok (.bl true) [] := by
      refine (ne_eqo (d := .lst ((a0 :: a1 :: a2 :: r).map D.int)) (e := .lst (([] : List Int).map D.int)) eqo_ints eqo_ints).trans ?_
      simp
    have q2 : (0 : Int) < most := by omega
    have q3 : (0 : Int) < 8 ∧ (8 : Int).natAbs < 1073741824 := by decide
    have q4 : ∀ i : Int, i.natAbs < 2 ^ 64 ∨ (4096 : Int).natAbs < 2 ^ 64 := fun i => .inr (by decide)
    have q5 : cut (D.int a0 :: D.int a1 :: D.int a2 :: r.map D.int) (some 1) (some 3) = [.int a1, .int a2] := cut13
    simp only [x_seq, x_set, x_k, st_ok, oan_nx, List.set_cons_succ, List.set_cons_zero, x_ifS, x_test, x_bin, x_lst, x_args0, x_args, x_var, List.getElem?_cons_zero, List.getElem?_cons_succ, ofO_ss, an_ok, hN, see_lst, see_int, q1, bool_bl, if_true, x_call, ix_lst, atI_lit, List.map_cons, od_s, x_one, int_int, mod_int, q2, add_int, en, div_int, q3, and_self, x_for, x_seqI, x_sl, x_part, partV_int, sl_lst, q5, seqV_lst, for_nm, mul_int, q4, tn_nx, for_nil]
    rfl
  have hr6 : r.length = 3 := by simpa using hns
  obtain ⟨bss1, e8, e11, sq1, g1⟩ := rows_made (ro := R) (k := k) (x := x) (mo := most) (fi := a0) (bi := (a0 / 8 * 4096 + a1) * 4096 + a2) (n := n) (e6 := some (.int a2)) hx hn hk (tl_self rfl)
  have ht : ∃ bss2, Sq n bss2 ∧ (sIf (cAndT (cTest (cBin gEq (cVar 1) (cK (.str "HT")))) (cTest (cBin gGt (cVar 4) (cK (.int 2))))) (sSet 7 (cComp (.nm 8) [8] (cRng1 (cArgs [cVar 4])) (cYes) (cComp (.nm 15) [15] (cRng1 (cArgs [cVar 4])) (cYes) (cAnd (cBin gLt (cVar 8) (cVar 15)) (cBin gEq (cBin gDiv (cVar 8) (cK (.int 2))) (cBin gDiv (cVar 15) (cK (.int 2))))) kStill) kStill)) (sNil)) (mE k x most a0 n ((a0 / 8 * 4096 + a1) * 4096 + a2) (some (.int a2)) (some (.lst (bss1.map bD))) e8 none none e11 none none none) R [] =
      .go .nx (mE k x most a0 n ((a0 / 8 * 4096 + a1) * 4096 + a2) (some (.int a2)) (some (.lst (bss2.map bD))) e8 none none e11 none none none) [] := by
    obtain ⟨c, kc⟩ := cond_eq (ro := R) (env := mE k x most a0 n ((a0 / 8 * 4096 + a1) * 4096 + a2) (some (.int a2)) (some (.lst (bss1.map bD))) e8 none none e11 none none none) (x := x) (y := "HT") (k := 1) rfl hx ok_lit
    have cd : ∃ c, (cAndT (cTest (cBin gEq (cVar 1) (cK (.str "HT")))) (cTest (cBin gGt (cVar 4) (cK (.int 2))))) (mE k x most a0 n ((a0 / 8 * 4096 + a1) * 4096 + a2) (some (.int a2)) (some (.lst (bss1.map bD))) e8 none none e11 none none none) R [] = .ok c [] := by
      rw [x_andT, kc, an_ok]
      cases c with
      | false => exact ⟨false, rfl⟩
      | true =>
        refine ⟨decide ((2 : Int) < n), ?_⟩
        simp only [if_true, x_test, x_bin, mE, x_var, x_k, List.getElem?_cons_zero, List.getElem?_cons_succ, ofO_ss, an_ok, see_int, gt_int, bool_bl]
    obtain ⟨c2, kc2⟩ := cd
    cases c2 with
    | false => exact ⟨bss1, sq1, by rw [x_ifS, kc2]; rfl⟩
    | true =>
      obtain ⟨bss, q1, q2, q3⟩ := comp_rows (ro := R) (w := []) (k := 8) (env := mE k x most a0 n ((a0 / 8 * 4096 + a1) * 4096 + a2) (some (.int a2)) (some (.lst (bss1.map bD))) none none none e11 none none none) (fa := cComp (.nm 15) [15] (cRng1 (cArgs [cVar 4])) (cYes) (cAnd (cBin gLt (cVar 8) (cVar 15)) (cBin gEq (cBin gDiv (cVar 8) (cK (.int 2))) (cBin gDiv (cVar 15) (cK (.int 2))))) kStill) (n := n) (List.range n) fun v hv =>
        row_comp hn rfl fun i hi => by
          have hd : (0 : Int) < 2 ∧ (2 : Int).natAbs < 1073741824 := by decide
          refine ⟨decide ((v : Int) < i) && decide ((v : Int) / 2 = (i : Int) / 2), ?_⟩
          simp only [mE, List.set_cons_succ, List.set_cons_zero, x_and, x_bin, x_var, x_k, List.getElem?_cons_zero, List.getElem?_cons_succ, ofO_ss, an_ok, see_int, lt_int, andV_bl, div_int, hd, and_self, if_true, eq_int]
          cases decide ((v : Int) < i) <;> rfl
      refine ⟨bss, ⟨by simpa using q1, q2⟩, ?_⟩
      have hz : ((List.range n).map nD).length ≤ sizeLine := by simp; omega
      rw [x_ifS, kc2, st_ok, if_pos rfl, x_set, x_comp, rng_it hn rfl]
      simp only [an_ok, hz, if_true]
      rw [show wipeE (mE k x most a0 n ((a0 / 8 * 4096 + a1) * 4096 + a2) (some (.int a2)) (some (.lst (bss1.map bD))) e8 none none e11 none none none) [8] = mE k x most a0 n ((a0 / 8 * 4096 + a1) * 4096 + a2) (some (.int a2)) (some (.lst (bss1.map bD))) none none none e11 none none none from rfl, q3]
      rfl
  obtain ⟨bss2, sq2, g2⟩ := ht
  obtain ⟨bss3, g3, sq3⟩ := hc n hn bss2 x R [] sq2 hx
  have lp : ∃ (l1 l2 l3 : List Nat) (env' : Env), l1.Sublist (List.range n) ∧ l2.Sublist (List.range n) ∧ l3.Sublist (List.range n) ∧ env'[7]? = some (some (.lst (bss3.map bD))) ∧ env'[9]? = some (some (.ref R.length)) ∧
      sFor (.nm 10) (cRng1 (cArgs [cK (.int 3)])) sPqr (mE k x most a0 n ((a0 / 8 * 4096 + a1) * 4096 + a2) (some (.int a2)) (some (.lst (bss3.map bD))) e8 (some (.ref R.length)) none e11 none none none) R [vD []] = .go .nx env' [vD [("p", l1), ("q", l2), ("r", l3)]] := by
    obtain ⟨l1, f1, f2, f3, k1, h1⟩ := pqr_step (ro := R) (k := k) (x := x) (mo := most) (fi := a0) (bi := (a0 / 8 * 4096 + a1) * 4096 + a2) (n := n) (j := 0) (e6 := some (.int a2)) (e8 := e8) (e11 := e11) (e12 := none) (e13 := none) (e14 := none) (v := []) (y := "p") hx hn sq3 hN hns (by decide) (fun w => pqr_0) (by simp) (by simp)
    obtain ⟨l2, f4, f5, f6, k2, h2⟩ := pqr_step (ro := R) (k := k) (x := x) (mo := most) (fi := a0) (bi := (a0 / 8 * 4096 + a1) * 4096 + a2) (n := n) (j := 1) (e6 := some (.int a2)) (e8 := e8) (e11 := e11) (e12 := f1) (e13 := f2) (e14 := f3) (v := [("p", l1)]) (y := "q") hx hn sq3 hN hns (by decide) (fun w => pqr_1) (by simp [ofString_inj]) (by simp)
    obtain ⟨l3, f7, f8, f9, k3, h3⟩ := pqr_step (ro := R) (k := k) (x := x) (mo := most) (fi := a0) (bi := (a0 / 8 * 4096 + a1) * 4096 + a2) (n := n) (j := 2) (e6 := some (.int a2)) (e8 := e8) (e11 := e11) (e12 := f4) (e13 := f5) (e14 := f6) (v := [("p", l1), ("q", l2)]) (y := "r") hx hn sq3 hN hns (by decide) (fun w => pqr_2) (by simp [ofString_inj]) (by simp)
    refine ⟨l1, l2, l3, mE k x most a0 n ((a0 / 8 * 4096 + a1) * 4096 + a2) (some (.int a2)) (some (.lst (bss3.map bD))) e8 (some (.ref R.length)) (some (nD 2)) e11 f7 f8 f9, k1, k2, k3, rfl, rfl, ?_⟩
    · rw [x_for]
      simp only [x_rng1, x_args, x_args0, x_k, an_ok]
      rw [show gRng1 [.int 3] R [vD []] = .ok [nD 0, nD 1, nD 2] [vD []] from rng1_nat (n := 3) (by decide), st_ok, for_nm]
      rw [show (mE k x most a0 n ((a0 / 8 * 4096 + a1) * 4096 + a2) (some (.int a2)) (some (.lst (bss3.map bD))) e8 (some (.ref R.length)) none e11 none none none).set 10 (some (nD 0)) = mE k x most a0 n ((a0 / 8 * 4096 + a1) * 4096 + a2) (some (.int a2)) (some (.lst (bss3.map bD))) e8 (some (.ref R.length)) (some (nD 0)) e11 none none none from rfl, h1, tn_nx, for_nm]
      rw [show (mE k x most a0 n ((a0 / 8 * 4096 + a1) * 4096 + a2) (some (.int a2)) (some (.lst (bss3.map bD))) e8 (some (.ref R.length)) (some (nD 0)) e11 f1 f2 f3).set 10 (some (nD 1)) = mE k x most a0 n ((a0 / 8 * 4096 + a1) * 4096 + a2) (some (.int a2)) (some (.lst (bss3.map bD))) e8 (some (.ref R.length)) (some (nD 1)) e11 f1 f2 f3 from rfl]
      rw [show ([] : List (Str × List Nat)) ++ [(("p" : Str), l1)] = [(("p" : Str), l1)] from rfl, h2, tn_nx, for_nm]
      rw [show (mE k x most a0 n ((a0 / 8 * 4096 + a1) * 4096 + a2) (some (.int a2)) (some (.lst (bss3.map bD))) e8 (some (.ref R.length)) (some (nD 1)) e11 f4 f5 f6).set 10 (some (nD 2)) = mE k x most a0 n ((a0 / 8 * 4096 + a1) * 4096 + a2) (some (.int a2)) (some (.lst (bss3.map bD))) e8 (some (.ref R.length)) (some (nD 2)) e11 f4 f5 f6 from rfl]
      rw [show [(("p" : Str), l1)] ++ [(("q" : Str), l2)] = [(("p" : Str), l1), (("q" : Str), l2)] from rfl, h3, tn_nx, for_nil]
      rfl
  obtain ⟨l1, l2, l3, env', k1, k2, k3, f7, f9, g4⟩ := lp
  refine ⟨ofRows n bss3 [("p", l1), ("q", l2), ("r", l3)], drawn_of n0 nm hm7 k1 k2 k3, ?_⟩
  have run : runDef 3 16 (h_law_model cc) [.ref k, .str x, .int most] R [] = .ok (.tup [.lst (bss3.map bD), .ref R.length]) [vD [("p", l1), ("q", l2), ("r", l3)]] := by
    rw [x_def]
    simp only [List.length_cons, List.length_nil, Nat.zero_add, Nat.reduceAdd, if_true, List.map_cons, List.map_nil, Nat.reduceSub, List.replicate, List.cons_append, List.nil_append]
    rw [hM_eq]
    unfold hM
    rw [st1, x_seq, g1, oan_nx, x_seq, g2, oan_nx, x_seq, x_set]
    simp only [x_call, x_args, x_args0, mE, x_var, List.getElem?_cons_zero, List.getElem?_cons_succ, ofO_ss, an_ok, List.length_cons, List.length_nil, Nat.zero_add, Nat.reduceAdd, if_true, g3, st_ok, oan_nx, List.set_cons_succ, List.set_cons_zero, x_seq, x_set, x_dnew, Nat.add_zero, List.nil_append]
    have g5 := g4
    simp only [mE] at g5
    rw [show [D.dic [] []] = [vD []] from rfl, g5, oan_nx, x_ret, x_tup]
    simp only [x_args, x_args0, x_var, f7, f9, ofO_ss, an_ok, st_ok, fin_rt]
  unfold pureD
  rw [hR]
  simp only [run]
  have t0 : told R.length [vD [("p", l1), ("q", l2), ("r", l3)]] 4 R.length = some (vD [("p", l1), ("q", l2), ("r", l3)]) := (told_at (b := R.length) (k := 3) (m := 0) (w := [vD [("p", l1), ("q", l2), ("r", l3)]]) rfl).trans (tell_self _ under_v)
  have t1 : D.tells (told R.length [vD [("p", l1), ("q", l2), ("r", l3)]] 4) (bss3.map bD) = some (bss3.map bD) := tells_self _ (unders_iff.mpr fun d hd => by obtain ⟨i, _, rfl⟩ := List.mem_map.mp hd; exact under_b)
  simp only [D.tell, D.tells, t0, t1, Option.map_some]
  rw [← rows_seen (v := [("p", l1), ("q", l2), ("r", l3)]) sq3]
  rfl
end
end Fx
/-! Models: any model that the law draws. -/
namespace Fx
open PySem PySem.Spec L2
section
variable {env : Env} {r : List D}
theorem comp_pool {k : Nat} {fa : EF} {Q : D → Prop} : ∀ (l : List Nat) (P : D), PoolOk P → (∀ i ∈ l, ∀ P, PoolOk P → ∃ d P', fa (env.set k (some (nD i))) [] (P :: r) = .ok d (P' :: r) ∧ PoolOk P' ∧ Q d) →
    ∃ (ds : List D) (P' : D), ds.length = l.length ∧ compR (.nm k) cYes fa env (l.map nD) [] (P :: r) = .ok ds (P' :: r) ∧ PoolOk P' ∧ ∀ d ∈ ds, Q d
  | [], P, hP, _ => ⟨[], P, rfl, rfl, hP, by simp⟩
  | i :: l, P, hP, h => by
    obtain ⟨d, P1, hd, hP1, hq⟩ := h i (by simp) P hP
    obtain ⟨ds, P2, h1, h2, h3, h4⟩ := comp_pool l P1 hP1 fun j hj => h j (List.mem_cons_of_mem _ hj)
    refine ⟨d :: ds, P2, by simp [h1], ?_, h3, fun z hz => ?_⟩
    · rw [List.map_cons, comp_nm, x_yes]
      simp [hd, h2]
    · rcases List.mem_cons.mp hz with rfl | hz
      · exact hq
      · exact h4 z hz
theorem comp_poolF {k : Nat} {ta : Env → M Bool} (hk : k < env.length) : ∀ (l : List Nat) (P : D), PoolOk P → (∀ i ∈ l, ∀ P, PoolOk P → ∃ b P', ta (env.set k (some (nD i))) [] (P :: r) = .ok b (P' :: r) ∧ PoolOk P') →
    ∃ (l' : List Nat) (P' : D), l'.Sublist l ∧ compR (.nm k) ta (cVar k) env (l.map nD) [] (P :: r) = .ok (l'.map nD) (P' :: r) ∧ PoolOk P'
  | [], P, hP, _ => ⟨[], P, List.Sublist.refl _, rfl, hP⟩
  | i :: l, P, hP, h => by
    obtain ⟨b, P1, hb, hP1⟩ := h i (by simp) P hP
    obtain ⟨l', P2, h1, h2, h3⟩ := comp_poolF hk l P1 hP1 fun j hj => h j (List.mem_cons_of_mem _ hj)
    cases b with
    | true =>
      refine ⟨i :: l', P2, h1.cons_cons i, ?_, h3⟩
      rw [List.map_cons, comp_nm]
      simp [hb, h2, List.getElem?_set_self hk]
    | false =>
      refine ⟨l', P2, h1.cons i, ?_, h3⟩
      rw [List.map_cons, comp_nm]
      simp [hb, h2]
/-- the env of _law_wide_model -/
def wE (mo de : Int) (n : Nat) (e4 e5 e6 e7 e8 : Option D) : Env := [some (.ref 0), some (.int mo), some (nD n), some (.int de), e4, e5, e6, e7, e8]
theorem draw_cell {cd : List D → M D} (hd : DrawSpec cd) {m : Int} (h0 : env[0]? = some (some (.ref 0))) (hm : 0 < m) (hm2 : m < 1073741824) (P : D) (hP : PoolOk P) :
    ∃ (v : Int) (P' : D), cCall (fun ds => if ds.length = 2 then cd ds else M.no) (cArgs [cVar 0, cK (.int m)]) env [] (P :: r) = .ok (.int v) (P' :: r) ∧ PoolOk P' := by
  obtain ⟨v, P', g, _, _, h⟩ := hd P r m hP hm hm2
  refine ⟨v, P', ?_, h⟩
  simp only [x_call, x_args, x_args0, x_var, h0, ofO_ss, x_k, an_ok, List.length_cons, List.length_nil, Nat.zero_add, Nat.reduceAdd, if_true, g]
def sWv (cd : List D → M D) : SF := sDPutF (cVar 5) (cVar 6) (cComp (.nm 8) [8] (cRng1 (cArgs [cVar 2])) (cTest (cBin gEq (cCall (fun ds => if ds.length = 2 then cd ds else M.no) (cArgs [cVar 0, cK (.int 3)])) (cK (.int 0)))) (cVar 8) kStill)
theorem wide_val {cd : List D → M D} (hd : DrawSpec cd) {mo de : Int} {n : Nat} {e4 e7 e8 : Option D} {v : List (Str × List Nat)} {y : Str} (hn : n ≤ 1000) (hv : y ∉ v.map (·.1)) (hv2 : v.length < 1000) (P : D) (hP : PoolOk P) :
    ∃ (l : List Nat) (P' : D), l.Sublist (List.range n) ∧ PoolOk P' ∧ sWv cd (wE mo de n e4 (some (.ref (1 + r.length))) (some (.str y)) e7 e8) [] (P :: (r ++ [vD v])) = .go .nx (wE mo de n e4 (some (.ref (1 + r.length))) (some (.str y)) e7 e8) (P' :: (r ++ [vD (v ++ [(y, l)])])) := by
  have hs : sizeLine = 16777216 := rfl
  obtain ⟨l, P', h1, h2, h3⟩ := comp_poolF (r := r ++ [vD v]) (k := 8) (env := wE mo de n e4 (some (.ref (1 + r.length))) (some (.str y)) e7 none) (ta := cTest (cBin gEq (cCall (fun ds => if ds.length = 2 then cd ds else M.no) (cArgs [cVar 0, cK (.int 3)])) (cK (.int 0)))) (by simp [wE]) (List.range n) P hP fun i hi P hP => by
    obtain ⟨z, P1, g1, g2⟩ := draw_cell (r := r ++ [vD v]) (env := (wE mo de n e4 (some (.ref (1 + r.length))) (some (.str y)) e7 none).set 8 (some (nD i))) hd (m := 3) rfl (by decide) (by decide) P hP
    refine ⟨decide (z = 0), P1, ?_, g2⟩
    rw [x_test, x_bin, g1]
    simp only [an_ok, x_k, see_int, eq_int, bool_bl]
  have hz : ((List.range n).map nD).length ≤ sizeLine := by simp; omega
  have hl : (vks v).length < sizeLine := by simp [vks]; omega
  have d1 := dput_own (w := P' :: (r ++ [vD v])) (n := 1 + r.length) (v := nsD l) (k := .str y) (ks := vks v) (xs := vxs v) (by rw [Nat.add_comm, List.getElem?_cons_succ, List.getElem?_append_right (Nat.le_refl _), Nat.sub_self]; rfl) (by simp) hl
  have d2 : dput (vks v) (vxs v) (.str y) (nsD l) = vD (v ++ [(y, l)]) := by
    unfold dput
    rw [dhas_v hv, vD_eq]
    simp [vks, vxs]
  have d3 : (P' :: (r ++ [vD v])).set (1 + r.length) (vD (v ++ [(y, l)])) = P' :: (r ++ [vD (v ++ [(y, l)])]) := by
    rw [Nat.add_comm, List.set_cons_succ, List.set_append_right _ _ (Nat.le_refl _), Nat.sub_self]
    rfl
  rw [d2, d3] at d1
  refine ⟨l, P', h1, h3, ?_⟩
  unfold sWv
  rw [x_dput, x_comp, rng_it hn rfl]
  simp only [an_ok, hz, if_true]
  rw [show wipeE (wE mo de n e4 (some (.ref (1 + r.length))) (some (.str y)) e7 e8) [8] = wE mo de n e4 (some (.ref (1 + r.length))) (some (.str y)) e7 none from rfl, h2]
  simp only [an_ok, x_still, st_ok, wE, x_var, List.getElem?_cons_zero, List.getElem?_cons_succ, ofO_ss, d1]
def WideSpec (f : List D → M D) : Prop := ∀ (P : D) (r : List D) (most : Nat), PoolOk P → 0 < most → most ≤ 7 → ∃ (A : Mo) (P' : D), Drawn most A ∧ PoolOk P' ∧ f [.ref 0, .int most] [] (P :: r) = .ok (.tup [seenD A, .ref (1 + r.length)]) (P' :: (r ++ [vD A.v]))
theorem wide_ok {cd : List D → M D} (hd : DrawSpec cd) : WideSpec (runDef 2 9 (h_law_wide_model cd)) := by
  intro P r most hP h0 h7
  have hs : sizeLine = 16777216 := rfl
  obtain ⟨v1, P1, g1, a1, b1, hP1⟩ := hd P r most hP (by omega) (by omega)
  obtain ⟨n, en, n0, nm⟩ : ∃ n : Nat, 1 + v1 = (n : Int) ∧ 0 < n ∧ n ≤ most := ⟨(1 + v1).toNat, by omega, by omega, by omega⟩
  obtain ⟨v2, P2, g2, a2, b2, hP2⟩ := hd P1 r 4 hP1 (by decide) (by decide)
  have hn : n ≤ 1000 := by omega
  have hz : ((List.range n).map nD).length ≤ sizeLine := by simp; omega
  obtain ⟨ds, P3, l1, g3, hP3, q3⟩ := comp_pool (r := r) (k := 7) (env := wE most (1 + v2) n none none none none none) (Q := fun d => ∃ bs : List Bool, bs.length = n ∧ d = bD bs)
    (fa := cComp (.nm 8) [8] (cRng1 (cArgs [cVar 2])) (cYes) (cBin gLt (cCall (fun ds => if ds.length = 2 then cd ds else M.no) (cArgs [cVar 0, cK (.int 5)])) (cVar 3)) kStill) (List.range n) P2 hP2 fun i hi P hP => by
      obtain ⟨ds, P', k1, k2, k3, k4⟩ := comp_pool (r := r) (k := 8) (env := wE most (1 + v2) n none none none (some (nD i)) none) (Q := fun d => ∃ b : Bool, d = .bl b) (fa := cBin gLt (cCall (fun ds => if ds.length = 2 then cd ds else M.no) (cArgs [cVar 0, cK (.int 5)])) (cVar 3)) (List.range n) P hP fun j hj P hP => by
        obtain ⟨z, P1, g1, g2⟩ := draw_cell (r := r) (env := (wE most (1 + v2) n none none none (some (nD i)) none).set 8 (some (nD j))) hd (m := 5) rfl (by decide) (by decide) P hP
        refine ⟨.bl (decide (z < 1 + v2)), P1, ?_, g2, _, rfl⟩
        rw [x_bin, g1]
        simp only [an_ok, x_var, wE, List.set_cons_succ, List.set_cons_zero, List.getElem?_cons_zero, List.getElem?_cons_succ, ofO_ss, see_int, lt_int]
      have hb : ∃ bs : List Bool, ds = bs.map .bl := by
        clear k1 k2
        induction ds with
        | nil => exact ⟨[], rfl⟩
        | cons d ds ih =>
          obtain ⟨b, rfl⟩ := k4 d (by simp)
          obtain ⟨bs, rfl⟩ := ih fun z hz => k4 z (List.mem_cons_of_mem _ hz)
          exact ⟨b :: bs, rfl⟩
      obtain ⟨bs, rfl⟩ := hb
      refine ⟨bD bs, P', ?_, k3, bs, by simpa using k1, rfl⟩
      rw [show (wE most (1 + v2) n none none none none none).set 7 (some (nD i)) = wE most (1 + v2) n none none none (some (nD i)) none from rfl, x_comp, rng_it hn rfl]
      simp only [an_ok, hz, if_true]
      rw [show wipeE (wE most (1 + v2) n none none none (some (nD i)) none) [8] = wE most (1 + v2) n none none none (some (nD i)) none from rfl, k2]
      rfl
  obtain ⟨bss, rfl, q4⟩ := all_rows q3
  have sq : Sq n bss := ⟨by simpa using l1, q4⟩
  obtain ⟨m1, P4, k1, hP4, w1⟩ := wide_val (r := r) hd (mo := most) (de := 1 + v2) (n := n) (e4 := some (.lst (bss.map bD))) (e7 := none) (e8 := none) (v := []) (y := "p") hn (by simp) (by simp) P3 hP3
  obtain ⟨m2, P5, k2, hP5, w2⟩ := wide_val (r := r) hd (mo := most) (de := 1 + v2) (n := n) (e4 := some (.lst (bss.map bD))) (e7 := none) (e8 := none) (v := [("p", m1)]) (y := "q") hn (by simp [ofString_inj]) (by simp) P4 hP4
  obtain ⟨m3, P6, k3, hP6, w3⟩ := wide_val (r := r) hd (mo := most) (de := 1 + v2) (n := n) (e4 := some (.lst (bss.map bD))) (e7 := none) (e8 := none) (v := [("p", m1), ("q", m2)]) (y := "r") hn (by simp [ofString_inj]) (by simp) P5 hP5
  refine ⟨ofRows n bss [("p", m1), ("q", m2), ("r", m3)], P6, drawn_of n0 nm h7 k1 k2 k3, hP6, ?_⟩
  rw [rows_seen sq, x_def]
  simp only [List.length_cons, List.length_nil, Nat.zero_add, Nat.reduceAdd, if_true, List.map_cons, List.map_nil, Nat.reduceSub, List.replicate, List.cons_append, List.nil_append]
  unfold h_law_wide_model
  rw [x_seq, x_set, x_bin]
  simp only [x_k, x_call, x_args, x_args0, x_var, List.getElem?_cons_zero, List.getElem?_cons_succ, ofO_ss, an_ok, List.length_cons, List.length_nil, Nat.zero_add, Nat.reduceAdd, if_true, g1, see_int, add_int, en, st_ok, oan_nx, List.set_cons_succ, List.set_cons_zero]
  rw [x_seq, x_set, x_bin]
  simp only [x_k, x_call, x_args, x_args0, x_var, List.getElem?_cons_zero, List.getElem?_cons_succ, ofO_ss, an_ok, List.length_cons, List.length_nil, Nat.zero_add, Nat.reduceAdd, if_true, g2, see_int, add_int, st_ok, oan_nx, List.set_cons_succ, List.set_cons_zero]
  rw [x_seq, x_set, x_comp, show ([some (.ref 0), some (.int most), some (.int n), some (.int (1 + v2)), none, none, none, none, none] : Env) = wE most (1 + v2) n none none none none none from rfl, rng_it hn rfl]
  simp only [an_ok, hz, if_true]
  rw [show wipeE (wE most (1 + v2) n none none none none none) [7] = wE most (1 + v2) n none none none none none from rfl, g3]
  simp only [an_ok, x_still, st_ok, oan_nx]
  rw [x_seq, x_set, x_dnew, st_ok, oan_nx, x_seq, x_for]
  have it : ∀ env w, cSeq (cTup (cArgs [cK (.str "p"), cK (.str "q"), cK (.str "r")])) env [] w = .ok [.str "p", .str "q", .str "r"] w := fun env w => by simp
  rw [it, st_ok, show ((wE most (1 + v2) n none none none none none).set 4 (some (.lst (bss.map bD)))).set 5 (some (.ref (([] : List D).length + (P3 :: r).length))) = wE most (1 + v2) n (some (.lst (bss.map bD))) (some (.ref (1 + r.length))) none none none from by simp [wE]; omega]
  rw [for_nm, show (wE most (1 + v2) n (some (.lst (bss.map bD))) (some (.ref (1 + r.length))) none none none).set 6 (some (.str "p")) = wE most (1 + v2) n (some (.lst (bss.map bD))) (some (.ref (1 + r.length))) (some (.str "p")) none none from rfl]
  have w1' : (sDPutF (cVar 5) (cVar 6) (cComp (.nm 8) [8] (cRng1 (cArgs [cVar 2])) (cTest (cBin gEq (cCall (fun ds => if ds.length = 2 then cd ds else M.no) (cArgs [cVar 0, cK (.int 3)])) (cK (.int 0)))) (cVar 8) kStill)) (wE most (1 + v2) n (some (.lst (bss.map bD))) (some (.ref (1 + r.length))) (some (.str "p")) none none) [] (P3 :: r ++ [.dic [] []]) = _ := w1
  rw [w1', tn_nx, for_nm]
  have w2' : (sDPutF (cVar 5) (cVar 6) (cComp (.nm 8) [8] (cRng1 (cArgs [cVar 2])) (cTest (cBin gEq (cCall (fun ds => if ds.length = 2 then cd ds else M.no) (cArgs [cVar 0, cK (.int 3)])) (cK (.int 0)))) (cVar 8) kStill)) (wE most (1 + v2) n (some (.lst (bss.map bD))) (some (.ref (1 + r.length))) (some (.str "q")) none none) [] (P4 :: (r ++ [vD ([] ++ [(("p" : Str), m1)])])) = _ := w2
  rw [show (wE most (1 + v2) n (some (.lst (bss.map bD))) (some (.ref (1 + r.length))) (some (.str "p")) none none).set 6 (some (.str "q")) = wE most (1 + v2) n (some (.lst (bss.map bD))) (some (.ref (1 + r.length))) (some (.str "q")) none none from rfl, w2', tn_nx, for_nm]
  have w3' : (sDPutF (cVar 5) (cVar 6) (cComp (.nm 8) [8] (cRng1 (cArgs [cVar 2])) (cTest (cBin gEq (cCall (fun ds => if ds.length = 2 then cd ds else M.no) (cArgs [cVar 0, cK (.int 3)])) (cK (.int 0)))) (cVar 8) kStill)) (wE most (1 + v2) n (some (.lst (bss.map bD))) (some (.ref (1 + r.length))) (some (.str "r")) none none) [] (P5 :: (r ++ [vD ([(("p" : Str), m1)] ++ [(("q" : Str), m2)])])) = _ := w3
  rw [show (wE most (1 + v2) n (some (.lst (bss.map bD))) (some (.ref (1 + r.length))) (some (.str "q")) none none).set 6 (some (.str "r")) = wE most (1 + v2) n (some (.lst (bss.map bD))) (some (.ref (1 + r.length))) (some (.str "r")) none none from rfl, w3', tn_nx, for_nil, oan_nx, x_ret, x_tup]
  simp only [x_args, x_args0, x_var, wE, List.getElem?_cons_zero, List.getElem?_cons_succ, ofO_ss, an_ok, st_ok, fin_rt]
  rfl
def DrawnSpec (f : List D → M D) : Prop := ∀ (P : D) (r : List D) (x : Str) (most : Nat), PoolOk P → SOk x → 0 < most → most ≤ 7 → ∃ (A : Mo) (P' g : D), Drawn most A ∧ PoolOk P' ∧ f [.ref 0, .str x, .int most] [] (P :: r) = .ok A.lawD (P' :: (r ++ [g])) ∧ D.under 0 g = true
theorem drawn_ok {cm cl : List D → M D} (hm : ModelSpec cm) (hl : ListSpec cl) : DrawnSpec (runDef 3 3 (h_law_drawn_model cm cl)) := by
  intro P r x most hP hx h0 h7
  obtain ⟨ns, P', g1, g2, g3, hP'⟩ := hl P r 6 hP (by decide)
  obtain ⟨A, hA, g4⟩ := hm (1 + r.length) ns x most [] (P' :: (r ++ [.lst (ns.map .int)])) (by simp; omega) (fun v => by
    rw [see_ref, List.nil_append]
    have : ((P' :: (r ++ [D.lst (ns.map .int)])) ++ v)[1 + r.length]? = some (.lst (ns.map .int)) := by
      rw [Nat.add_comm, List.cons_append, List.getElem?_cons_succ, List.append_assoc, List.getElem?_append_right (Nat.le_refl _), Nat.sub_self]
      rfl
    rw [this]
    rfl) g2 (fun i hi => (g3 i hi).1) hx h0 h7
  refine ⟨A, P', .lst (ns.map .int), hA, hP', ?_, unders_iff.mpr fun d hd => by obtain ⟨i, _, rfl⟩ := List.mem_map.mp hd; rfl⟩
  rw [x_def]
  simp only [List.length_cons, List.length_nil, Nat.zero_add, Nat.reduceAdd, if_true, List.map_cons, List.map_nil, Nat.reduceSub, List.replicate, List.cons_append, List.nil_append]
  unfold h_law_drawn_model
  have g1' : cl [.ref 0, .int 6] [] (P :: r) = _ := g1
  simp only [x_ret, x_call, x_args, x_args0, x_var, x_k, List.getElem?_cons_zero, List.getElem?_cons_succ, ofO_ss, an_ok, List.length_cons, List.length_nil, Nat.zero_add, Nat.reduceAdd, if_true, g1', g4, st_ok, fin_rt]
def nameL : List Str := ["K", "D", "T", "K4", "D4", "S4", "S5", "GL", "Grz", "Int", "KC", "LC", "BD2", "HT", "Cl"]
def NamesSpec (f : List D → M D) : Prop := ∀ ro w, f [] ro w = .ok (.lst (nameL.map .str)) w
theorem names_ok : NamesSpec (runDef 0 0 h_law_names) := fun ro w => by
  simp [x_def, h_law_names, nameL]
theorem nameL_ok : ∀ x ∈ nameL, SOk x := by
  intro x hx
  simp only [nameL, List.mem_cons, List.not_mem_nil, or_false] at hx
  rcases hx with rfl | rfl | rfl | rfl | rfl | rfl | rfl | rfl | rfl | rfl | rfl | rfl | rfl | rfl | rfl <;> exact ok_lit
def AnySpec (f : List D → M D) : Prop := ∀ (P : D) (r : List D) (most : Nat), PoolOk P → 0 < most → most ≤ 7 → ∃ (A : Mo) (P' g D' : D), Drawn most A ∧ PoolOk P' ∧ f [.ref 0, .int most] [] (P :: r) = .ok D' (P' :: (r ++ [g])) ∧ D.tell (told (1 + r.length) [g] 4) D' = some A.lawD
theorem any_ok {cd cw cr cn : List D → M D} (hd : DrawSpec cd) (hw : WideSpec cw) (hr : DrawnSpec cr) (hn : NamesSpec cn) : AnySpec (runDef 2 2 (h_law_any_model cd cw cr cn)) := by
  intro P r most hP h0 h7
  obtain ⟨v, P1, g1, a1, b1, hP1⟩ := hd P r 2 hP (by decide) (by decide)
  have st : ∀ s t : SF, (sSeq (sIf (cTest (cBin gEq (cCall (fun ds => if ds.length = 2 then cd ds else M.no) (cArgs [cVar 0, cK (.int 2)])) (cK (.int 0)))) s (sNil)) t) [some (.ref 0), some (.int most)] [] (P :: r) = if v = 0 then (s [some (.ref 0), some (.int most)] [] (P1 :: r)).an (fun e w => t e [] w) else t [some (.ref 0), some (.int most)] [] (P1 :: r) := fun s t => by
    rw [x_seq, x_ifS, x_test, x_bin]
    simp only [x_k, x_call, x_args, x_args0, x_var, List.getElem?_cons_zero, List.getElem?_cons_succ, ofO_ss, an_ok, List.length_cons, List.length_nil, Nat.zero_add, Nat.reduceAdd, if_true, g1, see_int, eq_int, bool_bl, st_ok]
    by_cases c : v = 0 <;> simp [c]
  have run : runDef 2 2 (h_law_any_model cd cw cr cn) [.ref 0, .int most] [] (P :: r) = ((h_law_any_model cd cw cr cn) [some (.ref 0), some (.int most)] [] (P :: r)).fin := by
    rw [x_def]
    simp only [List.length_cons, List.length_nil, Nat.zero_add, Nat.reduceAdd, if_true, List.map_cons, List.map_nil, Nat.reduceSub, List.replicate, List.cons_append, List.nil_append]
  by_cases c : v = 0
  · obtain ⟨A, P2, hA, hP2, g2⟩ := hw P1 r most hP1 h0 h7
    refine ⟨A, P2, vD A.v, .tup [seenD A, .ref (1 + r.length)], hA, hP2, ?_, ?_⟩
    · rw [run]
      unfold h_law_any_model
      rw [st, if_pos c]
      simp only [x_ret, x_call, x_args, x_args0, x_var, List.getElem?_cons_zero, List.getElem?_cons_succ, ofO_ss, an_ok, List.length_cons, List.length_nil, Nat.zero_add, Nat.reduceAdd, if_true, g2, st_ok, oan_rt, fin_rt]
    · have t0 : told (1 + r.length) [vD A.v] 4 (1 + r.length) = some (vD A.v) := (told_at (b := 1 + r.length) (k := 3) (m := 0) (w := [vD A.v]) rfl).trans (tell_self _ under_v)
      have t1 : D.tell (told (1 + r.length) [vD A.v] 4) (seenD A) = some (seenD A) := tell_self _ (unders_iff.mpr fun d hd => by
        obtain ⟨i, _, rfl⟩ := List.mem_map.mp hd
        exact unders_iff.mpr fun d hd => by obtain ⟨i, _, rfl⟩ := List.mem_map.mp hd; rfl)
      simp only [D.tell, D.tells, t0]
      have t2 : D.tell (told (1 + r.length) [vD A.v] 4) (seenD A) = some (seenD A) := t1
      simp only [t2]
      rfl
  · obtain ⟨u, P2, g2, a2, b2, hP2⟩ := hd P1 r 15 hP1 (by decide) (by decide)
    obtain ⟨m, rfl⟩ : ∃ m : Nat, u = m := ⟨u.toNat, by omega⟩
    have hm : m < nameL.length := by
      have : nameL.length = 15 := rfl
      omega
    obtain ⟨A, P3, g, hA, hP3, g3, ug⟩ := hr P2 r nameL[m] most hP2 (nameL_ok _ (List.getElem_mem hm)) h0 h7
    refine ⟨A, P3, g, A.lawD, hA, hP3, ?_, ?_⟩
    · have ix : gIx (.lst (nameL.map .str)) (.int m) [] (P2 :: r) = .ok (.str nameL[m]) (P2 :: r) := by
        rw [ix_lst, atI_nat, List.getElem?_map, List.getElem?_eq_getElem hm]
        rfl
      rw [run]
      unfold h_law_any_model
      rw [st, if_neg c]
      simp only [x_ret, x_call, x_call0, x_args, x_args0, x_bin, x_k, x_var, List.getElem?_cons_zero, List.getElem?_cons_succ, ofO_ss, an_ok, List.length_cons, List.length_nil, Nat.zero_add, Nat.reduceAdd, if_true, hn [] _, g2, see_lst, see_int, ix, g3, st_ok, fin_rt]
    · have t1 : D.unders 0 [seenD A, vD A.v] = true := unders_iff.mpr fun d hd => by
        simp only [List.mem_cons, List.not_mem_nil, or_false] at hd
        rcases hd with rfl | rfl
        · exact unders_iff.mpr fun d hd => by
            obtain ⟨i, _, rfl⟩ := List.mem_map.mp hd
            exact unders_iff.mpr fun d hd => by obtain ⟨i, _, rfl⟩ := List.mem_map.mp hd; rfl
        · exact under_v
      exact tell_self _ t1
end
end Fx
namespace K
open PySem PySem.Spec L2 Fx
inductive Fn where
  | f_is_world
  | f_is_frame
  | f_worlds_of
  | f_evaluated
  | f_truth
  | f_law_pool
  | f_law_spread
  | f_law_draw
  | f_law_same
  | f_law_formula
  | f_law_closed
  | f_law_model
  | f_law_true
  | f_law_list
  | f_law_some
  | f_law_where
  | f_law_drawn_model
  | f_law_wide_model
  | f_law_program_model
  | f_law_names
  | f_law_any_model
  | f_law_grid
  | f_law_framed
  | f_law
  | f_Model_init
  | f_Model_frame
  | f_Model_true_worlds
  | f_Model_seen
  | f_Model

def topS (i : Nat) : Stmt := PySem.Challenge.pw_elsewhere_k13_truth_in_models.main.body.getD i (.Pass ⟨0, 0, 0, 0⟩)

def csL : List Str := ["InvalidModel"]
def usL : List Str := []
def subL (c u : Str) : Bool := [].contains (c, u)

abbrev st_is_world : Stmt := topS 4
theorem sc_is_world : FnScope ["value", "worlds"] ["value", "worlds"] (defScope st_is_world) := ⟨rfl, rfl, rfl, by decide +kernel, rfl, by decide +kernel, by decide +kernel⟩
def b_is_world (cl : Fn → List D → M D) : SF :=
  sRet (cAnd (cIsi .int (cVar 0)) (cAnd (cNot (cIsi .bl (cVar 0))) (cChain gLe gLt (cK (.int 0)) (cVar 0) (cVar 1))))

abbrev st_is_frame : Stmt := topS 5
theorem sc_is_frame : FnScope ["frame", "worlds", "pairs", "pair"] ["frame"] (defScope st_is_frame) := ⟨rfl, rfl, rfl, by decide +kernel, rfl, by decide +kernel, by decide +kernel⟩
def b_is_frame (cl : Fn → List D → M D) : SF :=
  sSeq (sAsg (.tp [1, 2]) (cVar 0))
  (sSeq (sIf (cOrT (cTru (cIsi .bl (cVar 1))) (cTest (cBin gLt (cVar 1) (cK (.int 1))))) (sRet (cK (.bl false))) (sNil))
  (sSeq (sFor (.nm 3) (cSeq (cVar 2)) (sIf (cOrT (cTest (cBin gNe (cCall (one gLen) (cArgs [cVar 3])) (cK (.int 2)))) (cOrT (cNotT (cTru (cCall (fun ds => if ds.length = 2 then cl .f_is_world ds else M.no) (cArgs [cBin gIx (cVar 3) (cK (.int 0)), cVar 1])))) (cNotT (cTru (cCall (fun ds => if ds.length = 2 then cl .f_is_world ds else M.no) (cArgs [cBin gIx (cVar 3) (cK (.int 1)), cVar 1])))))) (sRet (cK (.bl false))) (sNil)))
  (sRet (cBin gEq (cCall (one gList) (cArgs [cVar 2])) (cCall (one gSortSet) (cArgs [cVar 2]))))))

abbrev st_worlds_of : Stmt := topS 8
theorem sc_worlds_of : FnScope ["model"] ["model"] (defScope st_worlds_of) := ⟨rfl, rfl, rfl, by decide +kernel, rfl, by decide +kernel, by decide +kernel⟩
def b_worlds_of (cl : Fn → List D → M D) : SF :=
  sRet (cLRg (cBin gIx (cMeth "Model" "frame" (fun ds => if ds.length = 1 then cl .f_Model_frame ds else M.no) (cVar 0) (cArgs [])) (cK (.int 0))))

abbrev st_evaluated : Stmt := topS 9
theorem sc_evaluated : FnScope ["model", "a", "forced", "first", "second", "good", "v", "w"] ["model", "a", "forced"] (defScope st_evaluated) := ⟨rfl, rfl, rfl, by decide +kernel, rfl, by decide +kernel, by decide +kernel⟩
def b_evaluated (cl : Fn → List D → M D) : SF :=
  sSeq (sIf (cTest (cBin gEq (cBin gIx (cVar 1) (cK (.int 0))) (cK (.str "var")))) (sRet (cDGetD (cMeth "Model" "true_worlds" (fun ds => if ds.length = 1 then cl .f_Model_true_worlds ds else M.no) (cVar 0) (cArgs [])) (cBin gIx (cVar 1) (cK (.int 1))) (cLst (cArgs [])))) (sNil))
  (sSeq (sIf (cTest (cBin gEq (cBin gIx (cVar 1) (cK (.int 0))) (cK (.str "falsum")))) (sRet (cLst (cArgs []))) (sNil))
  (sSeq (sSet 3 (cCall (fun ds => if ds.length = 3 then cl .f_evaluated ds else M.no) (cArgs [cVar 0, cBin gIx (cVar 1) (cK (.int 1)), cVar 2])))
  (sSeq (sIf (cTest (cBin gEq (cBin gIx (cVar 1) (cK (.int 0))) (cK (.str "box")))) (sRet (cComp (.nm 6) [6] (cSeq (cCall (fun ds => if ds.length = 1 then cl .f_worlds_of ds else M.no) (cArgs [cVar 0]))) (cTest (cBin gEq (cComp (.nm 7) [7] (cSeq (cMeth "Model" "seen" (fun ds => if ds.length = 2 then cl .f_Model_seen ds else M.no) (cVar 0) (cArgs [cVar 6]))) (cTest (cBin gNotIn (cVar 7) (cVar 3))) (cVar 7) kStill) (cLst (cArgs [])))) (cVar 6) kStill)) (sNil))
  (sSeq (sSet 4 (cCall (fun ds => if ds.length = 3 then cl .f_evaluated ds else M.no) (cArgs [cVar 0, cBin gIx (cVar 1) (cK (.int 2)), cVar 2])))
  (sSeq (sIf (cTest (cBin gEq (cBin gIx (cVar 1) (cK (.int 0))) (cK (.str "and")))) (sRet (cComp (.nm 6) [6] (cSeq (cVar 3)) (cTest (cBin gIn (cVar 6) (cVar 4))) (cVar 6) kStill)) (sNil))
  (sSeq (sIf (cTest (cBin gEq (cBin gIx (cVar 1) (cK (.int 0))) (cK (.str "or")))) (sRet (cComp (.nm 6) [6] (cSeq (cCall (fun ds => if ds.length = 1 then cl .f_worlds_of ds else M.no) (cArgs [cVar 0]))) (cOrT (cTest (cBin gIn (cVar 6) (cVar 3))) (cTest (cBin gIn (cVar 6) (cVar 4)))) (cVar 6) kStill)) (sNil))
  (sSeq (sSet 5 (cComp (.nm 6) [6] (cSeq (cCall (fun ds => if ds.length = 1 then cl .f_worlds_of ds else M.no) (cArgs [cVar 0]))) (cOrT (cTest (cBin gNotIn (cVar 6) (cVar 3))) (cTest (cBin gIn (cVar 6) (cVar 4)))) (cVar 6) kStill))
  (sSeq (sIf (cNotT (cTru (cVar 2))) (sRet (cVar 5)) (sNil))
  (sRet (cComp (.nm 6) [6] (cSeq (cCall (fun ds => if ds.length = 1 then cl .f_worlds_of ds else M.no) (cArgs [cVar 0]))) (cTest (cBin gEq (cComp (.nm 7) [7] (cSeq (cMeth "Model" "seen" (fun ds => if ds.length = 2 then cl .f_Model_seen ds else M.no) (cVar 0) (cArgs [cVar 6]))) (cTest (cBin gNotIn (cVar 7) (cVar 5))) (cVar 7) kStill) (cLst (cArgs [])))) (cVar 6) kStill))))))))))

abbrev st_truth : Stmt := topS 10
theorem sc_truth : FnScope ["model", "a"] ["model", "a"] (defScope st_truth) := ⟨rfl, rfl, rfl, by decide +kernel, rfl, by decide +kernel, by decide +kernel⟩
def b_truth (cl : Fn → List D → M D) : SF :=
  sRet (cCall (fun ds => if ds.length = 3 then cl .f_evaluated ds else M.no) (cArgs [cVar 0, cVar 1, cK (.bl false)]))

abbrev st_law_pool : Stmt := topS 12
theorem sc_law_pool : FnScope ["_law_script", "_law_salt", "_law_cell"] ["_law_script"] (defScope st_law_pool) := ⟨rfl, rfl, rfl, by decide +kernel, rfl, by decide +kernel, by decide +kernel⟩
def b_law_pool (cl : Fn → List D → M D) : SF :=
  sSeq (sSet 1 (cK (.int 7)))
  (sSeq (sFor (.nm 2) (cSeq (cSl (cVar 0) (cNoPart) (cPart (cK (.int 63))))) (sSet 1 (cBin gMod (cCall (one gInt) (cArgs [cBin gAdd (cBin gMul (cVar 1) (cK (.int 31))) (cVar 2)])) (cK (.int 1000003)))))
  (sRet (cLstM (cArgs [cCall (one gList) (cArgs [cVar 0]), cK (.int 0), cK (.int 0), cK (.int 0), cVar 1]))))

abbrev st_law_spread : Stmt := topS 13
theorem sc_law_spread : FnScope ["_law_cell", "_law_mixed", "_law_total", "_law_k"] ["_law_cell"] (defScope st_law_spread) := ⟨rfl, rfl, rfl, by decide +kernel, rfl, by decide +kernel, by decide +kernel⟩
def b_law_spread (cl : Fn → List D → M D) : SF :=
  sSeq (sSet 1 (cBin gMod (cCall (one gInt) (cArgs [cVar 0])) (cK (.int 2147483647))))
  (sSeq (sSet 2 (cK (.int 1)))
  (sSeq (sFor (.nm 3) (cRng1 (cArgs [cK (.int 4)])) (sSeq (sSet 1 (cBin gMod (cCall (one gInt) (cArgs [cBin gAdd (cBin gAdd (cBin gMul (cVar 1) (cK (.int 48271))) (cK (.int 12345))) (cVar 3)])) (cK (.int 2147483647))))
  (sSet 2 (cBin gAdd (cBin gMul (cVar 2) (cK (.int 2147483647))) (cVar 1)))))
  (sRet (cVar 2))))

abbrev st_law_draw : Stmt := topS 14
theorem sc_law_draw : FnScope ["_law_pool_here", "_law_many", "_law_value", "_law_cell", "_law_mixed"] ["_law_pool_here", "_law_many"] (defScope st_law_draw) := ⟨rfl, rfl, rfl, by decide +kernel, rfl, by decide +kernel, by decide +kernel⟩
def b_law_draw (cl : Fn → List D → M D) : SF :=
  sSeq (sIf (cAndT (cTest (cBin gLe (cBin gIx (cVar 0) (cK (.int 2))) (cK (.int 0)))) (cTest (cBin gLt (cBin gIx (cVar 0) (cK (.int 1))) (cCall (one gLen) (cArgs [cBin gIx (cVar 0) (cK (.int 0))]))))) (sSeq (sSet 3 (cBin gIx (cBin gIx (cVar 0) (cK (.int 0))) (cBin gIx (cVar 0) (cK (.int 1)))))
  (sSeq (sPut (cVar 0) (cK (.int 1)) (cBin gAdd (cBin gIx (cVar 0) (cK (.int 1))) (cK (.int 1))))
  (sSeq (sPut (cVar 0) (cK (.int 2)) (cVar 3))
  (sIf (cTest (cBin gLt (cVar 3) (cK (.int 1000000000000000000)))) (sPut (cVar 0) (cK (.int 2)) (cCall (fun ds => if ds.length = 1 then cl .f_law_spread ds else M.no) (cArgs [cVar 3]))) (sNil))))) (sNil))
  (sSeq (sPut (cVar 0) (cK (.int 3)) (cBin gAdd (cBin gIx (cVar 0) (cK (.int 3))) (cK (.int 1))))
  (sSeq (sIf (cTest (cBin gLe (cBin gIx (cVar 0) (cK (.int 2))) (cK (.int 0)))) (sSeq (sSet 4 (cBin gMod (cCall (one gInt) (cArgs [cBin gAdd (cBin gAdd (cBin gMul (cBin gIx (cVar 0) (cK (.int 4))) (cK (.int 48271))) (cBin gMul (cBin gIx (cVar 0) (cK (.int 3))) (cK (.int 69621)))) (cK (.int 1))])) (cK (.int 2147483647))))
  (sSeq (sSet 4 (cBin gMod (cCall (one gInt) (cArgs [cBin gAdd (cBin gMul (cVar 4) (cK (.int 16807))) (cBin gIx (cVar 0) (cK (.int 3)))])) (cK (.int 2147483629))))
  (sRet (cBin gMod (cBin gDiv (cVar 4) (cK (.int 5))) (cVar 1))))) (sNil))
  (sSeq (sSet 2 (cBin gMod (cCall (one gInt) (cArgs [cBin gIx (cVar 0) (cK (.int 2))])) (cVar 1)))
  (sSeq (sPut (cVar 0) (cK (.int 2)) (cBin gDiv (cBin gIx (cVar 0) (cK (.int 2))) (cVar 1)))
  (sRet (cVar 2))))))

abbrev st_law_same : Stmt := topS 15
theorem sc_law_same : FnScope ["_law_actual", "_law_due", "_law_k"] ["_law_actual", "_law_due"] (defScope st_law_same) := ⟨rfl, rfl, rfl, by decide +kernel, rfl, by decide +kernel, by decide +kernel⟩
def b_law_same (cl : Fn → List D → M D) : SF :=
  sSeq (sIf (cOrT (cTru (cIsi .tup (cVar 1))) (cTru (cIsi .lst (cVar 1)))) (sSeq (sIf (cOrT (cTest (cBin gNe (cIsi .tup (cVar 1)) (cIsi .tup (cVar 0)))) (cTest (cBin gNe (cIsi .lst (cVar 1)) (cIsi .lst (cVar 0))))) (sRet (cK (.bl false))) (sNil))
  (sSeq (sIf (cTest (cBin gNe (cCall (one gLen) (cArgs [cVar 0])) (cCall (one gLen) (cArgs [cVar 1])))) (sRet (cK (.bl false))) (sNil))
  (sSeq (sFor (.nm 2) (cRng1 (cArgs [cCall (one gLen) (cArgs [cVar 1])])) (sIf (cNotT (cTru (cCall (fun ds => if ds.length = 2 then cl .f_law_same ds else M.no) (cArgs [cBin gIx (cVar 0) (cVar 2), cBin gIx (cVar 1) (cVar 2)])))) (sRet (cK (.bl false))) (sNil)))
  (sRet (cK (.bl true)))))) (sNil))
  (sSeq (sIf (cTest (cBin gIsN (cVar 1) (cK .non))) (sRet (cBin gIsN (cVar 0) (cK .non))) (sNil))
  (sSeq (sIf (cTru (cIsi .bl (cVar 1))) (sRet (cAnd (cIsi .bl (cVar 0)) (cBin gEq (cVar 0) (cVar 1)))) (sNil))
  (sSeq (sIf (cTru (cIsi .int (cVar 1))) (sRet (cAnd (cIsi .int (cVar 0)) (cAnd (cNot (cIsi .bl (cVar 0))) (cBin gEq (cVar 0) (cVar 1))))) (sNil))
  (sRet (cAnd (cIsi .str (cVar 0)) (cBin gEq (cVar 0) (cVar 1)))))))

abbrev st_law_formula : Stmt := topS 16
theorem sc_law_formula : FnScope ["_law_pool_here", "_law_depth", "_law_plain", "_law_number", "_law_kind", "_law_first"] ["_law_pool_here", "_law_depth", "_law_plain"] (defScope st_law_formula) := ⟨rfl, rfl, rfl, by decide +kernel, rfl, by decide +kernel, by decide +kernel⟩
def b_law_formula (cl : Fn → List D → M D) : SF :=
  sSeq (sSet 3 (cK (.int 0)))
  (sSeq (sIf (cTest (cBin gNe (cVar 0) (cLst (cArgs [])))) (sSet 3 (cCall (one gInt) (cArgs [cMl gPopAt (cVar 0) (cArgs [cK (.int 0)])]))) (sNil))
  (sSeq (sSet 4 (cBin gMod (cVar 3) (cK (.int 10))))
  (sSeq (sIf (cOrT (cTest (cBin gEq (cVar 1) (cK (.int 0)))) (cTest (cBin gLt (cVar 4) (cK (.int 2))))) (sSeq (sIf (cTest (cBin gEq (cBin gMod (cBin gDiv (cVar 3) (cK (.int 10))) (cK (.int 8))) (cK (.int 0)))) (sRet (cTup (cArgs [cK (.str "falsum")]))) (sNil))
  (sRet (cTup (cArgs [cK (.str "var"), cBin gIx (cLst (cArgs [cK (.str "p"), cK (.str "q"), cK (.str "p"), cK (.str "q"), cK (.str "r")])) (cBin gMod (cBin gDiv (cVar 3) (cK (.int 80))) (cK (.int 5)))])))) (sNil))
  (sSeq (sIf (cOrT (cTest (cBin gEq (cVar 4) (cK (.int 2)))) (cAndT (cTest (cBin gIn (cVar 4) (cTup (cArgs [cK (.int 3), cK (.int 4)])))) (cTru (cVar 2)))) (sRet (cTup (cArgs [cK (.str "implies"), cCall (fun ds => if ds.length = 3 then cl .f_law_formula ds else M.no) (cArgs [cVar 0, cBin gSub (cVar 1) (cK (.int 1)), cVar 2]), cTup (cArgs [cK (.str "falsum")])]))) (sNil))
  (sSeq (sIf (cTest (cBin gIn (cVar 4) (cTup (cArgs [cK (.int 3), cK (.int 4)])))) (sRet (cTup (cArgs [cK (.str "box"), cCall (fun ds => if ds.length = 3 then cl .f_law_formula ds else M.no) (cArgs [cVar 0, cBin gSub (cVar 1) (cK (.int 1)), cVar 2])]))) (sNil))
  (sSeq (sSet 5 (cCall (fun ds => if ds.length = 3 then cl .f_law_formula ds else M.no) (cArgs [cVar 0, cBin gSub (cVar 1) (cK (.int 1)), cVar 2])))
  (sRet (cTup (cArgs [cBin gIx (cLst (cArgs [cK (.str "and"), cK (.str "or"), cK (.str "implies"), cK (.str "implies"), cK (.str "or")])) (cBin gSub (cVar 4) (cK (.int 5))), cVar 5, cCall (fun ds => if ds.length = 3 then cl .f_law_formula ds else M.no) (cArgs [cVar 0, cBin gSub (cVar 1) (cK (.int 1)), cVar 2])])))))))))

abbrev st_law_closed : Stmt := topS 17
theorem sc_law_closed : FnScope ["_law_seen", "_law_logic", "_law_worlds", "_law_pairs", "_law_v", "_law_u", "_law_w", "_law_row"] ["_law_seen", "_law_logic"] (defScope st_law_closed) := ⟨rfl, rfl, rfl, by decide +kernel, rfl, by decide +kernel, by decide +kernel⟩
def b_law_closed (cl : Fn → List D → M D) : SF :=
  sSeq (sSet 2 (cCall (one gLen) (cArgs [cVar 0])))
  (sSeq (sSet 3 (cComp (.nm 7) [7] (cSeq (cVar 0)) (cYes) (cCall (one gListM) (cArgs [cVar 7])) kMut))
  (sSeq (sIf (cTest (cBin gNotIn (cVar 1) (cTup (cArgs [cK (.str "K"), cK (.str "D"), cK (.str "K4"), cK (.str "D4"), cK (.str "GL")])))) (sFor (.nm 4) (cRng1 (cArgs [cVar 2])) (sPut (cBin gIx (cVar 3) (cVar 4)) (cVar 4) (cK (.bl true)))) (sNil))
  (sSeq (sIf (cTest (cBin gEq (cVar 1) (cK (.str "S5")))) (sFor (.nm 4) (cRng1 (cArgs [cVar 2])) (sFor (.nm 6) (cRng1 (cArgs [cVar 2])) (sPut (cBin gIx (cVar 3) (cVar 4)) (cVar 6) (cOr (cBin gIx (cBin gIx (cVar 3) (cVar 4)) (cVar 6)) (cBin gIx (cBin gIx (cVar 3) (cVar 6)) (cVar 4)))))) (sNil))
  (sSeq (sIf (cTest (cBin gIn (cVar 1) (cTup (cArgs [cK (.str "D"), cK (.str "D4")])))) (sFor (.nm 4) (cRng1 (cArgs [cVar 2])) (sIf (cTest (cBin gNotIn (cK (.bl true)) (cBin gIx (cVar 3) (cVar 4)))) (sPut (cBin gIx (cVar 3) (cVar 4)) (cVar 4) (cK (.bl true))) (sNil))) (sNil))
  (sSeq (sIf (cTest (cBin gNotIn (cVar 1) (cTup (cArgs [cK (.str "K"), cK (.str "D"), cK (.str "T")])))) (sFor (.nm 5) (cRng1 (cArgs [cVar 2])) (sFor (.nm 4) (cRng1 (cArgs [cVar 2])) (sFor (.nm 6) (cRng1 (cArgs [cVar 2])) (sPut (cBin gIx (cVar 3) (cVar 4)) (cVar 6) (cOr (cBin gIx (cBin gIx (cVar 3) (cVar 4)) (cVar 6)) (cAnd (cBin gIx (cBin gIx (cVar 3) (cVar 4)) (cVar 5)) (cBin gIx (cBin gIx (cVar 3) (cVar 5)) (cVar 6)))))))) (sNil))
  (sRet (cVar 3)))))))

abbrev st_law_model : Stmt := topS 18
theorem sc_law_model : FnScope ["_law_numbers", "_law_logic", "_law_most", "_law_first", "_law_worlds", "_law_bits", "_law_number", "_law_seen", "_law_v", "_law_values", "_law_k", "_law_row", "_law_name", "_law_mask", "_law_here", "_law_w"] ["_law_numbers", "_law_logic", "_law_most"] (defScope st_law_model) := ⟨rfl, rfl, rfl, by decide +kernel, rfl, by decide +kernel, by decide +kernel⟩
def b_law_model (cl : Fn → List D → M D) : SF :=
  sSeq (sSet 3 (cK (.int 0)))
  (sSeq (sIf (cTest (cBin gNe (cVar 0) (cLst (cArgs [])))) (sSet 3 (cCall (one gInt) (cArgs [cBin gIx (cVar 0) (cK (.int 0))]))) (sNil))
  (sSeq (sSet 4 (cBin gAdd (cK (.int 1)) (cBin gMod (cVar 3) (cVar 2))))
  (sSeq (sSet 5 (cBin gDiv (cVar 3) (cK (.int 8))))
  (sSeq (sFor (.nm 6) (cSeq (cSl (cVar 0) (cPart (cK (.int 1))) (cPart (cK (.int 3))))) (sSet 5 (cBin gAdd (cBin gMul (cVar 5) (cK (.int 4096))) (cCall (one gInt) (cArgs [cVar 6])))))
  (sSeq (sTell (sSeq (sSet 7 (cLstM (cArgs []))) (sFor (.nm 8) (cRng1 (cArgs [cVar 4])) (sSeq (sSet 11 (cComp (.nm 15) [15] (cRng1 (cArgs [cVar 4])) (cYes) (cBin gEq (cBin gBand (cBin gShr (cVar 5) (cBin gAdd (cBin gMul (cVar 8) (cVar 4)) (cVar 15))) (cK (.int 1))) (cK (.int 1))) kStill))
  (sSeq (sIf (cTest (cBin gIn (cVar 1) (cTup (cArgs [cK (.str "GL"), cK (.str "Grz"), cK (.str "Int"), cK (.str "KC"), cK (.str "LC"), cK (.str "BD2"), cK (.str "HT"), cK (.str "Cl")])))) (sSet 11 (cComp (.nm 15) [15] (cRng1 (cArgs [cVar 4])) (cYes) (cAnd (cBin gIx (cVar 11) (cVar 15)) (cBin gLt (cVar 8) (cVar 15))) kStill)) (sNil))
  (sSeq (sIf (cTest (cBin gIn (cVar 1) (cTup (cArgs [cK (.str "LC"), cK (.str "HT")])))) (sSet 11 (cComp (.nm 15) [15] (cRng1 (cArgs [cVar 4])) (cYes) (cBin gLt (cVar 8) (cVar 15)) kStill)) (sNil))
  (sSeq (sIf (cTest (cBin gIn (cVar 1) (cTup (cArgs [cK (.str "KC")])))) (sSet 11 (cComp (.nm 15) [15] (cRng1 (cArgs [cVar 4])) (cYes) (cOr (cBin gIx (cVar 11) (cVar 15)) (cAnd (cBin gEq (cVar 15) (cBin gSub (cVar 4) (cK (.int 1)))) (cBin gLt (cVar 8) (cVar 15)))) kStill)) (sNil))
  (sSeq (sIf (cTest (cBin gIn (cVar 1) (cTup (cArgs [cK (.str "BD2")])))) (sSet 11 (cComp (.nm 15) [15] (cRng1 (cArgs [cVar 4])) (cYes) (cAnd (cBin gIx (cVar 11) (cVar 15)) (cChain gLt gLe (cVar 8) (cBin gDiv (cVar 4) (cK (.int 2))) (cVar 15))) kStill)) (sNil))
  (sSeq (sIf (cTest (cBin gEq (cVar 1) (cK (.str "Cl")))) (sSet 11 (cBin gMulF (cLst (cArgs [cK (.bl false)])) (cVar 4))) (sNil))
  (sExpr (cMl gAppend (cVar 7) (cArgs [cVar 11]))))))))))))
  (sSeq (sIf (cAndT (cTest (cBin gEq (cVar 1) (cK (.str "HT")))) (cTest (cBin gGt (cVar 4) (cK (.int 2))))) (sSet 7 (cComp (.nm 8) [8] (cRng1 (cArgs [cVar 4])) (cYes) (cComp (.nm 15) [15] (cRng1 (cArgs [cVar 4])) (cYes) (cAnd (cBin gLt (cVar 8) (cVar 15)) (cBin gEq (cBin gDiv (cVar 8) (cK (.int 2))) (cBin gDiv (cVar 15) (cK (.int 2))))) kStill) kStill)) (sNil))
  (sSeq (sSet 7 (cCall (fun ds => if ds.length = 2 then cl .f_law_closed ds else M.no) (cArgs [cVar 7, cVar 1])))
  (sSeq (sSet 9 (cDNew))
  (sSeq (sFor (.nm 10) (cRng1 (cArgs [cK (.int 3)])) (sSeq (sSet 12 (cBin gIx (cK (.str "pqr")) (cVar 10)))
  (sSeq (sSet 13 (cK (.int 0)))
  (sSeq (sIf (cTest (cBin gGt (cCall (one gLen) (cArgs [cVar 0])) (cBin gAdd (cK (.int 3)) (cVar 10)))) (sSet 13 (cBin gMod (cCall (one gInt) (cArgs [cBin gIx (cVar 0) (cBin gAdd (cK (.int 3)) (cVar 10))])) (cBin gShl (cK (.int 1)) (cVar 4)))) (sNil))
  (sSeq (sSet 14 (cComp (.nm 15) [15] (cRng1 (cArgs [cVar 4])) (cTest (cBin gEq (cBin gBand (cBin gShr (cVar 13) (cVar 15)) (cK (.int 1))) (cK (.int 1)))) (cVar 15) kStill))
  (sSeq (sIf (cTest (cBin gIn (cVar 1) (cTup (cArgs [cK (.str "Int"), cK (.str "KC"), cK (.str "LC"), cK (.str "BD2"), cK (.str "HT"), cK (.str "Cl")])))) (sSet 14 (cComp (.nm 15) [15] (cRng1 (cArgs [cVar 4])) (cTest (cBin gIn (cK (.bl true)) (cComp (.nm 8) [8] (cSeq (cVar 14)) (cYes) (cBin gIx (cBin gIx (cVar 7) (cVar 8)) (cVar 15)) kStill))) (cVar 15) kStill)) (sNil))
  (sDPutF (cVar 9) (cVar 12) (cVar 14))))))))
  (sRet (cTup (cArgs [cVar 7, cVar 9]))))))))))))

abbrev st_law_true : Stmt := topS 19
theorem sc_law_true : FnScope ["_law_model_here", "_law_a", "_law_w", "_law_forced", "_law_seen", "_law_u"] ["_law_model_here", "_law_a", "_law_w", "_law_forced"] (defScope st_law_true) := ⟨rfl, rfl, rfl, by decide +kernel, rfl, by decide +kernel, by decide +kernel⟩
def b_law_true (cl : Fn → List D → M D) : SF :=
  sSeq (sSet 4 (cBin gIx (cVar 0) (cK (.int 0))))
  (sSeq (sIf (cTest (cBin gEq (cBin gIx (cVar 1) (cK (.int 0))) (cK (.str "falsum")))) (sRet (cK (.bl false))) (sNil))
  (sSeq (sIf (cTest (cBin gEq (cBin gIx (cVar 1) (cK (.int 0))) (cK (.str "var")))) (sRet (cBin gIn (cVar 2) (cDGetD (cBin gIx (cVar 0) (cK (.int 1))) (cBin gIx (cVar 1) (cK (.int 1))) (cLst (cArgs []))))) (sNil))
  (sSeq (sIf (cTest (cBin gEq (cBin gIx (cVar 1) (cK (.int 0))) (cK (.str "and")))) (sRet (cAnd (cCall (fun ds => if ds.length = 4 then cl .f_law_true ds else M.no) (cArgs [cVar 0, cBin gIx (cVar 1) (cK (.int 1)), cVar 2, cVar 3])) (cCall (fun ds => if ds.length = 4 then cl .f_law_true ds else M.no) (cArgs [cVar 0, cBin gIx (cVar 1) (cK (.int 2)), cVar 2, cVar 3])))) (sNil))
  (sSeq (sIf (cTest (cBin gEq (cBin gIx (cVar 1) (cK (.int 0))) (cK (.str "or")))) (sRet (cOr (cCall (fun ds => if ds.length = 4 then cl .f_law_true ds else M.no) (cArgs [cVar 0, cBin gIx (cVar 1) (cK (.int 1)), cVar 2, cVar 3])) (cCall (fun ds => if ds.length = 4 then cl .f_law_true ds else M.no) (cArgs [cVar 0, cBin gIx (cVar 1) (cK (.int 2)), cVar 2, cVar 3])))) (sNil))
  (sSeq (sIf (cTest (cBin gEq (cBin gIx (cVar 1) (cK (.int 0))) (cK (.str "box")))) (sSeq (sFor (.nm 5) (cRng1 (cArgs [cCall (one gLen) (cArgs [cVar 4])])) (sIf (cAndT (cTru (cBin gIx (cBin gIx (cVar 4) (cVar 2)) (cVar 5))) (cNotT (cTru (cCall (fun ds => if ds.length = 4 then cl .f_law_true ds else M.no) (cArgs [cVar 0, cBin gIx (cVar 1) (cK (.int 1)), cVar 5, cVar 3]))))) (sRet (cK (.bl false))) (sNil)))
  (sRet (cK (.bl true)))) (sNil))
  (sSeq (sFor (.nm 5) (cRng1 (cArgs [cCall (one gLen) (cArgs [cVar 4])])) (sIf (cOrT (cAndT (cTest (cBin gEq (cVar 5) (cVar 2))) (cNotT (cTru (cVar 3)))) (cAndT (cTru (cVar 3)) (cTru (cBin gIx (cBin gIx (cVar 4) (cVar 2)) (cVar 5))))) (sIf (cAndT (cTru (cCall (fun ds => if ds.length = 4 then cl .f_law_true ds else M.no) (cArgs [cVar 0, cBin gIx (cVar 1) (cK (.int 1)), cVar 5, cVar 3]))) (cNotT (cTru (cCall (fun ds => if ds.length = 4 then cl .f_law_true ds else M.no) (cArgs [cVar 0, cBin gIx (cVar 1) (cK (.int 2)), cVar 5, cVar 3]))))) (sRet (cK (.bl false))) (sNil)) (sNil)))
  (sRet (cK (.bl true)))))))))

abbrev st_law_list : Stmt := topS 20
theorem sc_law_list : FnScope ["_law_pool_here", "_law_many", "_law_k"] ["_law_pool_here", "_law_many"] (defScope st_law_list) := ⟨rfl, rfl, rfl, by decide +kernel, rfl, by decide +kernel, by decide +kernel⟩
def b_law_list (cl : Fn → List D → M D) : SF :=
  sRet (cComp (.nm 2) [2] (cRng1 (cArgs [cVar 1])) (cYes) (cCall (fun ds => if ds.length = 2 then cl .f_law_draw ds else M.no) (cArgs [cVar 0, cK (.int 4096)])) kMut)

abbrev st_law_some : Stmt := topS 21
theorem sc_law_some : FnScope ["_law_pool_here", "_law_depth", "_law_plain"] ["_law_pool_here", "_law_depth", "_law_plain"] (defScope st_law_some) := ⟨rfl, rfl, rfl, by decide +kernel, rfl, by decide +kernel, by decide +kernel⟩
def b_law_some (cl : Fn → List D → M D) : SF :=
  sRet (cCall (fun ds => if ds.length = 3 then cl .f_law_formula ds else M.no) (cArgs [cCall (fun ds => if ds.length = 2 then cl .f_law_list ds else M.no) (cArgs [cVar 0, cK (.int 40)]), cVar 1, cVar 2]))

abbrev st_law_where : Stmt := topS 22
theorem sc_law_where : FnScope ["_law_model_here", "_law_a", "_law_forced", "_law_w"] ["_law_model_here", "_law_a", "_law_forced"] (defScope st_law_where) := ⟨rfl, rfl, rfl, by decide +kernel, rfl, by decide +kernel, by decide +kernel⟩
def b_law_where (cl : Fn → List D → M D) : SF :=
  sRet (cComp (.nm 3) [3] (cRng1 (cArgs [cCall (one gLen) (cArgs [cBin gIx (cVar 0) (cK (.int 0))])])) (cTru (cCall (fun ds => if ds.length = 4 then cl .f_law_true ds else M.no) (cArgs [cVar 0, cVar 1, cVar 3, cVar 2]))) (cVar 3) kStill)

abbrev st_law_drawn_model : Stmt := topS 23
theorem sc_law_drawn_model : FnScope ["_law_pool_here", "_law_logic", "_law_most"] ["_law_pool_here", "_law_logic", "_law_most"] (defScope st_law_drawn_model) := ⟨rfl, rfl, rfl, by decide +kernel, rfl, by decide +kernel, by decide +kernel⟩
def b_law_drawn_model (cl : Fn → List D → M D) : SF :=
  sRet (cCall (fun ds => if ds.length = 3 then cl .f_law_model ds else M.no) (cArgs [cCall (fun ds => if ds.length = 2 then cl .f_law_list ds else M.no) (cArgs [cVar 0, cK (.int 6)]), cVar 1, cVar 2]))

abbrev st_law_wide_model : Stmt := topS 24
theorem sc_law_wide_model : FnScope ["_law_pool_here", "_law_most", "_law_worlds", "_law_dense", "_law_seen", "_law_values", "_law_name", "_law_v", "_law_w"] ["_law_pool_here", "_law_most"] (defScope st_law_wide_model) := ⟨rfl, rfl, rfl, by decide +kernel, rfl, by decide +kernel, by decide +kernel⟩
def b_law_wide_model (cl : Fn → List D → M D) : SF :=
  sSeq (sSet 2 (cBin gAdd (cK (.int 1)) (cCall (fun ds => if ds.length = 2 then cl .f_law_draw ds else M.no) (cArgs [cVar 0, cVar 1]))))
  (sSeq (sSet 3 (cBin gAdd (cK (.int 1)) (cCall (fun ds => if ds.length = 2 then cl .f_law_draw ds else M.no) (cArgs [cVar 0, cK (.int 4)]))))
  (sSeq (sSet 4 (cComp (.nm 7) [7] (cRng1 (cArgs [cVar 2])) (cYes) (cComp (.nm 8) [8] (cRng1 (cArgs [cVar 2])) (cYes) (cBin gLt (cCall (fun ds => if ds.length = 2 then cl .f_law_draw ds else M.no) (cArgs [cVar 0, cK (.int 5)])) (cVar 3)) kStill) kStill))
  (sSeq (sSet 5 (cDNew))
  (sSeq (sFor (.nm 6) (cSeq (cTup (cArgs [cK (.str "p"), cK (.str "q"), cK (.str "r")]))) (sDPutF (cVar 5) (cVar 6) (cComp (.nm 8) [8] (cRng1 (cArgs [cVar 2])) (cTest (cBin gEq (cCall (fun ds => if ds.length = 2 then cl .f_law_draw ds else M.no) (cArgs [cVar 0, cK (.int 3)])) (cK (.int 0)))) (cVar 8) kStill)))
  (sRet (cTup (cArgs [cVar 4, cVar 5])))))))

abbrev st_law_program_model : Stmt := topS 25
theorem sc_law_program_model : FnScope ["_law_model_here", "_law_values", "_law_name"] ["_law_model_here"] (defScope st_law_program_model) := ⟨rfl, rfl, rfl, by decide +kernel, rfl, by decide +kernel, by decide +kernel⟩
def b_law_program_model (cl : Fn → List D → M D) : SF :=
  sSeq (sSet 1 (cDNew))
  (sSeq (sForX (.nm 2) 0 1 (sDPutF (cVar 1) (cVar 2) (cCall (one gList) (cArgs [cDGet (cBin gIx (cVar 0) (cK (.int 1))) (cVar 2)]))))
  (sRet (cTup (cArgs [cCall (fun ds => if ds.length = 1 then cl .f_law_framed ds else M.no) (cArgs [cBin gIx (cVar 0) (cK (.int 0))]), cVar 1]))))

abbrev st_law_names : Stmt := topS 26
theorem sc_law_names : FnScope [] [] (defScope st_law_names) := ⟨rfl, rfl, rfl, by decide +kernel, rfl, by decide +kernel, by decide +kernel⟩
def b_law_names (cl : Fn → List D → M D) : SF :=
  sRet (cLst (cArgs [cK (.str "K"), cK (.str "D"), cK (.str "T"), cK (.str "K4"), cK (.str "D4"), cK (.str "S4"), cK (.str "S5"), cK (.str "GL"), cK (.str "Grz"), cK (.str "Int"), cK (.str "KC"), cK (.str "LC"), cK (.str "BD2"), cK (.str "HT"), cK (.str "Cl")]))

abbrev st_law_any_model : Stmt := topS 27
theorem sc_law_any_model : FnScope ["_law_pool_here", "_law_most"] ["_law_pool_here", "_law_most"] (defScope st_law_any_model) := ⟨rfl, rfl, rfl, by decide +kernel, rfl, by decide +kernel, by decide +kernel⟩
def b_law_any_model (cl : Fn → List D → M D) : SF :=
  sSeq (sIf (cTest (cBin gEq (cCall (fun ds => if ds.length = 2 then cl .f_law_draw ds else M.no) (cArgs [cVar 0, cK (.int 2)])) (cK (.int 0)))) (sRet (cCall (fun ds => if ds.length = 2 then cl .f_law_wide_model ds else M.no) (cArgs [cVar 0, cVar 1]))) (sNil))
  (sRet (cCall (fun ds => if ds.length = 3 then cl .f_law_drawn_model ds else M.no) (cArgs [cVar 0, cBin gIx (cCall0 (cl .f_law_names)) (cCall (fun ds => if ds.length = 2 then cl .f_law_draw ds else M.no) (cArgs [cVar 0, cK (.int 15)])), cVar 1])))

abbrev st_law_grid : Stmt := topS 28
theorem sc_law_grid : FnScope ["_law_first", "_law_second", "_law_found", "_law_v", "_law_w"] ["_law_first", "_law_second"] (defScope st_law_grid) := ⟨rfl, rfl, rfl, by decide +kernel, rfl, by decide +kernel, by decide +kernel⟩
def b_law_grid (cl : Fn → List D → M D) : SF :=
  sSeq (sSet 2 (cLstM (cArgs [])))
  (sSeq (sFor (.nm 3) (cRng1 (cArgs [cVar 0])) (sFor (.nm 4) (cRng1 (cArgs [cVar 1])) (sExpr (cMl gAppend (cVar 2) (cArgs [cTup (cArgs [cVar 3, cVar 4])])))))
  (sRet (cVar 2)))

abbrev st_law_framed : Stmt := topS 29
theorem sc_law_framed : FnScope ["_law_seen", "_law_pairs", "_law_pair"] ["_law_seen"] (defScope st_law_framed) := ⟨rfl, rfl, rfl, by decide +kernel, rfl, by decide +kernel, by decide +kernel⟩
def b_law_framed (cl : Fn → List D → M D) : SF :=
  sSeq (sSet 1 (cCall (fun ds => if ds.length = 2 then cl .f_law_grid ds else M.no) (cArgs [cCall (one gLen) (cArgs [cVar 0]), cCall (one gLen) (cArgs [cVar 0])])))
  (sRet (cTup (cArgs [cCall (one gLen) (cArgs [cVar 0]), cCall (one gTuple) (cArgs [cComp (.nm 2) [2] (cSeq (cVar 1)) (cTru (cBin gIx (cBin gIx (cVar 0) (cBin gIx (cVar 2) (cK (.int 0)))) (cBin gIx (cVar 2) (cK (.int 1))))) (cVar 2) kStill])])))

abbrev st_law : Stmt := topS 30
theorem sc_law : FnScope ["_law_script", "_law_pool_here", "_law_model_here", "_law_made", "_law_k", "_law_a"] ["_law_script"] (defScope st_law) := ⟨rfl, rfl, rfl, by decide +kernel, rfl, by decide +kernel, by decide +kernel⟩
def b_law (cl : Fn → List D → M D) : SF :=
  sSeq (sSet 1 (cCall (fun ds => if ds.length = 1 then cl .f_law_pool ds else M.no) (cArgs [cVar 0])))
  (sSeq (sTell (sSet 2 (cCall (fun ds => if ds.length = 2 then cl .f_law_any_model ds else M.no) (cArgs [cVar 1, cK (.int 5)]))))
  (sSeq (sSet 3 (cCall (fun ds => if ds.length = 1 then cl .f_law_program_model ds else M.no) (cArgs [cVar 2])))
  (sSeq (sSet 3 (cCall (fun ds => if ds.length = 2 then cl .f_Model ds else M.no) (cArgs [cBin gIx (cVar 3) (cK (.int 0)), cBin gIx (cVar 3) (cK (.int 1))])))
  (sSeq (sFor (.nm 4) (cRng1 (cArgs [cK (.int 3)])) (sSeq (sSet 5 (cCall (fun ds => if ds.length = 3 then cl .f_law_some ds else M.no) (cArgs [cVar 1, cBin gAdd (cK (.int 1)) (cCall (fun ds => if ds.length = 2 then cl .f_law_draw ds else M.no) (cArgs [cVar 1, cK (.int 5)])), cK (.bl false)])))
  (sIf (cNotT (cTru (cCall (fun ds => if ds.length = 2 then cl .f_law_same ds else M.no) (cArgs [cCall (fun ds => if ds.length = 2 then cl .f_truth ds else M.no) (cArgs [cVar 3, cVar 5]), cCall (fun ds => if ds.length = 3 then cl .f_law_where ds else M.no) (cArgs [cVar 2, cVar 5, cK (.bl false)])])))) (sRet (cK (.bl false))) (sNil))))
  (sRet (cK (.bl true)))))))

abbrev st_Model_init : Stmt := inClass (topS 7) 0
theorem sc_Model_init : FnScope ["self", "frame", "values", "v", "w", "name", "_"] ["self", "frame", "values"] (defScope st_Model_init) := ⟨rfl, rfl, rfl, by decide +kernel, rfl, by decide +kernel, by decide +kernel⟩
def b_Model_init (cl : Fn → List D → M D) : SF :=
  sSeq (sIf (cNotT (cTru (cCall (fun ds => if ds.length = 1 then cl .f_is_frame ds else M.no) (cArgs [cVar 1])))) (sRaise "InvalidModel") (sNil))
  (sSeq (sSetF "Model" "_frame" (cVar 0) (cTup (cArgs [cBin gIx (cVar 1) (cK (.int 0)), cCall (one gTuple) (cArgs [cBin gIx (cVar 1) (cK (.int 1))])])))
  (sSeq (sSetF "Model" "_seen" (cVar 0) (cComp (.nm 6) [6] (cRng1 (cArgs [cBin gIx (cVar 1) (cK (.int 0))])) (cYes) (cLstM (cArgs [])) kMut))
  (sSeq (sFor (.tp [3, 4]) (cSeq (cBin gIx (cVar 1) (cK (.int 1)))) (sExpr (cMl gAppend (cBin gIx (cFld "Model" "_seen" (cVar 0)) (cVar 3)) (cArgs [cVar 4]))))
  (sSeq (sSetF "Model" "_values" (cVar 0) (cDNew))
  (sForD (.nm 5) 2 (sSeq (sFor (.nm 4) (cSeq (cDGet (cVar 2) (cVar 5))) (sIf (cNotT (cTru (cCall (fun ds => if ds.length = 2 then cl .f_is_world ds else M.no) (cArgs [cVar 4, cBin gIx (cVar 1) (cK (.int 0))])))) (sRaise "InvalidModel") (sNil)))
  (sIf (cTest (cBin gGt (cCall (one gLen) (cArgs [cDGet (cVar 2) (cVar 5)])) (cK (.int 0)))) (sDPutF (cFld "Model" "_values" (cVar 0)) (cVar 5) (cCall (one gSortSet) (cArgs [cDGet (cVar 2) (cVar 5)]))) (sNil))))))))

abbrev st_Model_frame : Stmt := inClass (topS 7) 1
theorem sc_Model_frame : FnScope ["self"] ["self"] (defScope st_Model_frame) := ⟨rfl, rfl, rfl, by decide +kernel, rfl, by decide +kernel, by decide +kernel⟩
def b_Model_frame (cl : Fn → List D → M D) : SF :=
  sRet (cFld "Model" "_frame" (cVar 0))

abbrev st_Model_true_worlds : Stmt := inClass (topS 7) 2
theorem sc_Model_true_worlds : FnScope ["self", "name"] ["self"] (defScope st_Model_true_worlds) := ⟨rfl, rfl, rfl, by decide +kernel, rfl, by decide +kernel, by decide +kernel⟩
def b_Model_true_worlds (cl : Fn → List D → M D) : SF :=
  sRet (cDcA (.nm 1) [1] "Model" 0 "_values" (cVar 1) (cCall (one gList) (cArgs [cDGet (cFld "Model" "_values" (cVar 0)) (cVar 1)])))

abbrev st_Model_seen : Stmt := inClass (topS 7) 3
theorem sc_Model_seen : FnScope ["self", "v"] ["self", "v"] (defScope st_Model_seen) := ⟨rfl, rfl, rfl, by decide +kernel, rfl, by decide +kernel, by decide +kernel⟩
def b_Model_seen (cl : Fn → List D → M D) : SF :=
  sRet (cCall (one gList) (cArgs [cBin gIx (cFld "Model" "_seen" (cVar 0)) (cVar 1)]))

/-- one turn of the table -/
def body (cl : Fn → List D → M D) : Fn → List D → M D
  | .f_is_world => runDef 2 2 (b_is_world cl)
  | .f_is_frame => runDef 1 4 (b_is_frame cl)
  | .f_worlds_of => runDef 1 1 (b_worlds_of cl)
  | .f_evaluated => runDef 3 8 (b_evaluated cl)
  | .f_truth => runDef 2 2 (b_truth cl)
  | .f_law_pool => runDef 1 3 (b_law_pool cl)
  | .f_law_spread => runDef 1 4 (b_law_spread cl)
  | .f_law_draw => runDef 2 5 (b_law_draw cl)
  | .f_law_same => runDef 2 3 (b_law_same cl)
  | .f_law_formula => runDef 3 6 (b_law_formula cl)
  | .f_law_closed => pureD (runDef 2 8 (b_law_closed cl))
  | .f_law_model => pureD (runDef 3 16 (b_law_model cl))
  | .f_law_true => runDef 4 6 (b_law_true cl)
  | .f_law_list => runDef 2 3 (b_law_list cl)
  | .f_law_some => runDef 3 3 (b_law_some cl)
  | .f_law_where => runDef 3 4 (b_law_where cl)
  | .f_law_drawn_model => runDef 3 3 (b_law_drawn_model cl)
  | .f_law_wide_model => runDef 2 9 (b_law_wide_model cl)
  | .f_law_program_model => pureD (runDef 1 3 (b_law_program_model cl))
  | .f_law_names => runDef 0 0 (b_law_names cl)
  | .f_law_any_model => runDef 2 2 (b_law_any_model cl)
  | .f_law_grid => pureD (runDef 2 5 (b_law_grid cl))
  | .f_law_framed => runDef 1 3 (b_law_framed cl)
  | .f_law => runDef 1 6 (b_law cl)
  | .f_Model_init => runDef 3 7 (b_Model_init cl)
  | .f_Model_frame => runDef 1 1 (b_Model_frame cl)
  | .f_Model_true_worlds => pureD (runDef 1 2 (b_Model_true_worlds cl))
  | .f_Model_seen => runDef 2 2 (b_Model_seen cl)
  | .f_Model => pureD (mkD "Model" (cl .f_Model_init))

def ev : Nat → Fn → List D → M D
  | 0 => fun _ _ => M.no
  | n + 1 => body (ev n)

theorem ev_s {n : Nat} {f : Fn} : ev (n + 1) f = body (ev n) f := rfl
theorem q_is_world {n : Nat} : ev (n + 1) .f_is_world = runDef 2 2 (b_is_world (ev n)) := rfl
theorem q_is_frame {n : Nat} : ev (n + 1) .f_is_frame = runDef 1 4 (b_is_frame (ev n)) := rfl
theorem q_worlds_of {n : Nat} : ev (n + 1) .f_worlds_of = runDef 1 1 (b_worlds_of (ev n)) := rfl
theorem q_evaluated {n : Nat} : ev (n + 1) .f_evaluated = runDef 3 8 (b_evaluated (ev n)) := rfl
theorem q_truth {n : Nat} : ev (n + 1) .f_truth = runDef 2 2 (b_truth (ev n)) := rfl
theorem q_law_pool {n : Nat} : ev (n + 1) .f_law_pool = runDef 1 3 (b_law_pool (ev n)) := rfl
theorem q_law_spread {n : Nat} : ev (n + 1) .f_law_spread = runDef 1 4 (b_law_spread (ev n)) := rfl
theorem q_law_draw {n : Nat} : ev (n + 1) .f_law_draw = runDef 2 5 (b_law_draw (ev n)) := rfl
theorem q_law_same {n : Nat} : ev (n + 1) .f_law_same = runDef 2 3 (b_law_same (ev n)) := rfl
theorem q_law_formula {n : Nat} : ev (n + 1) .f_law_formula = runDef 3 6 (b_law_formula (ev n)) := rfl
theorem q_law_closed {n : Nat} : ev (n + 1) .f_law_closed = pureD (runDef 2 8 (b_law_closed (ev n))) := rfl
theorem q_law_model {n : Nat} : ev (n + 1) .f_law_model = pureD (runDef 3 16 (b_law_model (ev n))) := rfl
theorem q_law_true {n : Nat} : ev (n + 1) .f_law_true = runDef 4 6 (b_law_true (ev n)) := rfl
theorem q_law_list {n : Nat} : ev (n + 1) .f_law_list = runDef 2 3 (b_law_list (ev n)) := rfl
theorem q_law_some {n : Nat} : ev (n + 1) .f_law_some = runDef 3 3 (b_law_some (ev n)) := rfl
theorem q_law_where {n : Nat} : ev (n + 1) .f_law_where = runDef 3 4 (b_law_where (ev n)) := rfl
theorem q_law_drawn_model {n : Nat} : ev (n + 1) .f_law_drawn_model = runDef 3 3 (b_law_drawn_model (ev n)) := rfl
theorem q_law_wide_model {n : Nat} : ev (n + 1) .f_law_wide_model = runDef 2 9 (b_law_wide_model (ev n)) := rfl
theorem q_law_program_model {n : Nat} : ev (n + 1) .f_law_program_model = pureD (runDef 1 3 (b_law_program_model (ev n))) := rfl
theorem q_law_names {n : Nat} : ev (n + 1) .f_law_names = runDef 0 0 (b_law_names (ev n)) := rfl
theorem q_law_any_model {n : Nat} : ev (n + 1) .f_law_any_model = runDef 2 2 (b_law_any_model (ev n)) := rfl
theorem q_law_grid {n : Nat} : ev (n + 1) .f_law_grid = pureD (runDef 2 5 (b_law_grid (ev n))) := rfl
theorem q_law_framed {n : Nat} : ev (n + 1) .f_law_framed = runDef 1 3 (b_law_framed (ev n)) := rfl
theorem q_law {n : Nat} : ev (n + 1) .f_law = runDef 1 6 (b_law (ev n)) := rfl
theorem q_Model_init {n : Nat} : ev (n + 1) .f_Model_init = runDef 3 7 (b_Model_init (ev n)) := rfl
theorem q_Model_frame {n : Nat} : ev (n + 1) .f_Model_frame = runDef 1 1 (b_Model_frame (ev n)) := rfl
theorem q_Model_true_worlds {n : Nat} : ev (n + 1) .f_Model_true_worlds = pureD (runDef 1 2 (b_Model_true_worlds (ev n))) := rfl
theorem q_Model_seen {n : Nat} : ev (n + 1) .f_Model_seen = runDef 2 2 (b_Model_seen (ev n)) := rfl
theorem q_Model {n : Nat} : ev (n + 1) .f_Model = pureD (mkD "Model" ((ev n) .f_Model_init)) := rfl

theorem e_pool {n : Nat} (h : 0 < n) : PoolSpec (ev n .f_law_pool) := by
  obtain ⟨m, rfl⟩ : ∃ m, n = m + 1 := ⟨n - 1, by omega⟩
  exact Lw.pool_ok

theorem e_spread {n : Nat} (h : 0 < n) : SpreadSpec (ev n .f_law_spread) := by
  obtain ⟨m, rfl⟩ : ∃ m, n = m + 1 := ⟨n - 1, by omega⟩
  exact Lw.spread_ok

theorem e_draw {n : Nat} (h : 1 < n) : DrawSpec (ev n .f_law_draw) := by
  obtain ⟨m, rfl⟩ : ∃ m, n = m + 1 := ⟨n - 1, by omega⟩
  exact Lw.draw_ok (e_spread (by omega))

theorem e_list {n : Nat} (h : 2 < n) : ListSpec (ev n .f_law_list) := by
  obtain ⟨m, rfl⟩ : ∃ m, n = m + 1 := ⟨n - 1, by omega⟩
  exact Lw.list_ok (e_draw (by omega))

theorem e_formula : ∀ {d n : Nat}, d < n → FormulaSpec d (ev n .f_law_formula)
  | d, n + 1, h => by
    have ih : ∀ d', d = d' + 1 → FormulaSpec d' (ev n .f_law_formula) := fun d' e => e_formula (by omega)
    exact Lw.formula_ok (c := ev n .f_law_formula) ih

theorem e_some {d n : Nat} (h : d + 1 < n) (h' : 3 < n) : SomeSpec d (ev n .f_law_some) := by
  obtain ⟨m, rfl⟩ : ∃ m, n = m + 1 := ⟨n - 1, by omega⟩
  exact Lw.some_ok (e_formula (by omega)) (e_list (by omega))

theorem e_same : ∀ {d n : Nat}, d < n → SameSpec d (ev n .f_law_same)
  | d, n + 1, h => by
    have ih : ∀ d', d = d' + 1 → SameSpec d' (ev n .f_law_same) := fun d' e => e_same (by omega)
    exact Lw.same_ok (c := ev n .f_law_same) ih
end K
namespace K
open PySem PySem.Spec L2 Fx
structure Bt (K : PySem.W.Frag) (mg : Str → Option Value) (w : World) : Prop where
  m_bool : mg "bool" = none
  m_int : mg "int" = none
  m_isinstance : mg "isinstance" = none
  m_len : mg "len" = none
  m_list : mg "list" = none
  m_range : mg "range" = none
  m_set : mg "set" = none
  m_sorted : mg "sorted" = none
  m_str : mg "str" = none
  m_tuple : mg "tuple" = none

  xt : ExT K mg csL usL subL
  k_Model : ClX K mg "Model" ["_frame", "_seen", "_values"]

structure Cs (P : Program) (w : World) (K : PySem.W.Frag) (mg : Str → Option Value) (base : Heap) (n : Nat) (cl : Fn → List D → M D) : Prop where
  c_f_is_world : CallOk P w K mg base n "is_world" (cl .f_is_world) 2
  c_f_is_frame : CallOk P w K mg base n "is_frame" (cl .f_is_frame) 1
  c_f_worlds_of : CallOk P w K mg base n "worlds_of" (cl .f_worlds_of) 1
  c_f_evaluated : CallOk P w K mg base n "evaluated" (cl .f_evaluated) 3
  c_f_truth : CallOk P w K mg base n "truth" (cl .f_truth) 2
  c_f_law_pool : CallOk P w K mg base n "_law_pool" (cl .f_law_pool) 1
  c_f_law_spread : CallOk P w K mg base n "_law_spread" (cl .f_law_spread) 1
  c_f_law_draw : CallOk P w K mg base n "_law_draw" (cl .f_law_draw) 2
  c_f_law_same : CallOk P w K mg base n "_law_same" (cl .f_law_same) 2
  c_f_law_formula : CallOk P w K mg base n "_law_formula" (cl .f_law_formula) 3
  c_f_law_closed : CallOk P w K mg base n "_law_closed" (cl .f_law_closed) 2
  c_f_law_model : CallOk P w K mg base n "_law_model" (cl .f_law_model) 3
  c_f_law_true : CallOk P w K mg base n "_law_true" (cl .f_law_true) 4
  c_f_law_list : CallOk P w K mg base n "_law_list" (cl .f_law_list) 2
  c_f_law_some : CallOk P w K mg base n "_law_some" (cl .f_law_some) 3
  c_f_law_where : CallOk P w K mg base n "_law_where" (cl .f_law_where) 3
  c_f_law_drawn_model : CallOk P w K mg base n "_law_drawn_model" (cl .f_law_drawn_model) 3
  c_f_law_wide_model : CallOk P w K mg base n "_law_wide_model" (cl .f_law_wide_model) 2
  c_f_law_program_model : CallOk P w K mg base n "_law_program_model" (cl .f_law_program_model) 1
  c_f_law_names : CallOk P w K mg base n "_law_names" (cl .f_law_names) 0
  c_f_law_any_model : CallOk P w K mg base n "_law_any_model" (cl .f_law_any_model) 2
  c_f_law_grid : CallOk P w K mg base n "_law_grid" (cl .f_law_grid) 2
  c_f_law_framed : CallOk P w K mg base n "_law_framed" (cl .f_law_framed) 1
  c_f_law : CallOk P w K mg base n "law" (cl .f_law) 1
  c_f_Model_init : InitOk P w K mg base n "Model" (cl .f_Model_init) 2
  c_f_Model_frame : MethOk P w K mg base n "Model" "frame" (cl .f_Model_frame) 1
  c_f_Model_true_worlds : MethOk P w K mg base n "Model" "true_worlds" (cl .f_Model_true_worlds) 1
  c_f_Model_seen : MethOk P w K mg base n "Model" "seen" (cl .f_Model_seen) 2
  c_f_Model : MakeOk P w K mg base n "Model" (cl .f_Model) 2

section
variable {P : Program} {w : World} {K : PySem.W.Frag} {mg : Str → Option Value} {base : Heap} {n : Nat} {cl : Fn → List D → M D}

theorem ok_is_world (B : Bt K mg w) (cs : Cs P w K mg base n cl) {a : Addr} {fd : FuncData} (F : Fun K "is_world" "is_world" st_is_world a fd) : FnOk P w K mg base (L2.CX P w) (n + 1) a fd ["value", "worlds"] (spF ⟨K, mg, w⟩ (runDef 2 2 (b_is_world cl)) 2) :=
  def_ok (ps := ["value", "worlds"]) F sc_is_world fun cdv A outer s H E hr => by
    unfold b_is_world
    exact (fs_one (f_ret (pf_and (pf_isi .int rfl B.m_isinstance rfl B.m_int (by decide +kernel) (pf_var 0)) (pf_and (pf_not (pf_isi .bl rfl B.m_isinstance rfl B.m_bool (by decide +kernel) (pf_var 0))) (pf_one (pf_chain op_le ok2_le op_lt ok2_lt pf_int (pf_var 0) (pf_var 1)))))))

theorem ok_is_frame (B : Bt K mg w) (cs : Cs P w K mg base n cl) {a : Addr} {fd : FuncData} (F : Fun K "is_frame" "is_frame" st_is_frame a fd) : FnOk P w K mg base (L2.CX P w) (n + 1) a fd ["frame"] (spF ⟨K, mg, w⟩ (runDef 1 4 (b_is_frame cl)) 1) :=
  def_ok (ps := ["frame"]) F sc_is_frame fun cdv A outer s H E hr => by
    unfold b_is_frame
    exact (fs_cons (f_asg (t := (.tp [1, 2])) (pg_t rfl (pgn_cons (pg_n 1 sc_is_frame.nd) (pgn_cons (pg_n 2 sc_is_frame.nd) pgn_nil))) (pf_var 0))
    (fs_cons (f_if (PW.pt (pw_orF (pt_tru (pf_isi .bl rfl B.m_isinstance rfl B.m_bool (by decide +kernel) (pf_var 1))) (pw_or1F (pt_cmpF op_lt ok2_lt (pf_var 1) pf_int (nomark _))))) (fs_one (f_ret pf_bl)) fs_nil)
    (fs_cons (f_for (t := (.nm 3)) (passes_of rfl) rfl (pfi_seq (pf_var 2)) (pg_n 3 sc_is_frame.nd) (fs_one (f_if (PW.pt (pw_orF (pt_cmpF (op_neD hr.units) ok2_ne (pf_callB cf_len (okL_one ok_len) rfl B.m_len PySem.boot_len (pfa_cons (pf_var 3) pfa_nil)) pf_int (nomark _)) (pw_orF (pt_notF (pt_tru (pf_call cs.c_f_is_world hr (pass_of (takes_of rfl rfl rfl rfl)) rfl (pfa_cons (pf_ix (pf_var 3) pf_int (fun _ _ => rfl)) (pfa_cons (pf_var 1) pfa_nil))))) (pw_or1F (pt_notF (pt_tru (pf_call cs.c_f_is_world hr (pass_of (takes_of rfl rfl rfl rfl)) rfl (pfa_cons (pf_ix (pf_var 3) pf_int (fun _ _ => rfl)) (pfa_cons (pf_var 1) pfa_nil))))))))) (fs_one (f_ret pf_bl)) fs_nil)))
    (fs_one (f_ret (pf_cmp (op_eqD hr.units) ok2_eq (pf_callTy cf_list (okL_one ok_list) rfl B.m_list (by decide +kernel) (pfa_cons (pf_var 2) pfa_nil)) (pf_sortSet rfl (hu70 hr) rfl B.m_sorted rfl B.m_set (pfa_cons (pf_var 2) pfa_nil)) (nomark _)))))))

theorem ok_worlds_of (B : Bt K mg w) (cs : Cs P w K mg base n cl) {a : Addr} {fd : FuncData} (F : Fun K "worlds_of" "worlds_of" st_worlds_of a fd) : FnOk P w K mg base (L2.CX P w) (n + 1) a fd ["model"] (spF ⟨K, mg, w⟩ (runDef 1 1 (b_worlds_of cl)) 1) :=
  def_ok (ps := ["model"]) F sc_worlds_of fun cdv A outer s H E hr => by
    unfold b_worlds_of
    exact (fs_one (f_ret (pf_lrg rfl rfl B.m_list rfl B.m_range (pf_ix (pf_meth0 cs.c_f_Model_frame hr (pass_of (takes_of rfl rfl rfl rfl)) (pf_var 0)) pf_int (fun _ _ => rfl)))))

theorem ok_evaluated (B : Bt K mg w) (cs : Cs P w K mg base n cl) {a : Addr} {fd : FuncData} (F : Fun K "evaluated" "evaluated" st_evaluated a fd) : FnOk P w K mg base (L2.CX P w) (n + 1) a fd ["model", "a", "forced"] (spF ⟨K, mg, w⟩ (runDef 3 8 (b_evaluated cl)) 3) :=
  def_ok (ps := ["model", "a", "forced"]) F sc_evaluated fun cdv A outer s H E hr => by
    unfold b_evaluated
    exact (fs_cons (f_if (pt_cmpF (op_eqD hr.units) ok2_eq (pf_ix (pf_var 1) pf_int (fun _ _ => rfl)) pf_str (nomark _)) (fs_one (f_ret (pf_dgetD (hu1 hr) (pf_meth0 cs.c_f_Model_true_worlds hr (pass_of (takes_of rfl rfl rfl rfl)) (pf_var 0)) (pf_ix (pf_var 1) pf_int (fun _ _ => rfl)) (pf_lst pfa_nil)))) fs_nil)
    (fs_cons (f_if (pt_cmpF (op_eqD hr.units) ok2_eq (pf_ix (pf_var 1) pf_int (fun _ _ => rfl)) pf_str (nomark _)) (fs_one (f_ret (pf_lst pfa_nil))) fs_nil)
    (fs_cons (f_set 3 sc_evaluated.nd (pf_call cs.c_f_evaluated hr (pass_of (takes_of rfl rfl rfl rfl)) rfl (pfa_cons (pf_var 0) (pfa_cons (pf_ix (pf_var 1) pf_int (fun _ _ => rfl)) (pfa_cons (pf_var 2) pfa_nil)))))
    (fs_cons (f_if (pt_cmpF (op_eqD hr.units) ok2_eq (pf_ix (pf_var 1) pf_int (fun _ _ => rfl)) pf_str (nomark _)) (fs_one (f_ret (pf_lc (own := [("v", 6)]) (t := (.nm 6)) kStill_ok (by decide) rfl sc_evaluated.nd (pfi_seq (pf_call cs.c_f_worlds_of hr (pass_of (takes_of rfl rfl rfl rfl)) rfl (pfa_cons (pf_var 0) pfa_nil))) (blkOk_by (N := ["model", "a", "forced", "first", "second", "good", "v", "w"]) (sc := defScope st_evaluated) (by decide +kernel)) (fun _ _ _ _ _ => (pg_n 6 sc_evaluated.nd)) (fun _ _ _ _ _ => (fts_one (pt_cmpF (op_eqD hr.units) ok2_eq (pf_lc (own := [("w", 7)]) (t := (.nm 7)) kStill_ok (by decide) rfl sc_evaluated.nd (pfi_seq (pf_meth cs.c_f_Model_seen hr pass_0 (pf_var 0) (pfa_cons (pf_var 6) pfa_nil))) (blkOk_by (by kernel_rfl)) (fun _ _ _ _ _ => (pg_n 7 sc_evaluated.nd)) (fun _ _ _ _ _ => (fts_one (pt_cmpF (opf_notIn (hu65 hr)) ok2_notIn (pf_var 7) (pf_var 3) (by rfl)))) (fun _ _ _ _ _ => (pf_var 7))) (pf_lst pfa_nil) (nomark _)))) (fun _ _ _ _ _ => (pf_var 6))))) fs_nil)
    (fs_cons (f_set 4 sc_evaluated.nd (pf_call cs.c_f_evaluated hr (pass_of (takes_of rfl rfl rfl rfl)) rfl (pfa_cons (pf_var 0) (pfa_cons (pf_ix (pf_var 1) pf_int (fun _ _ => rfl)) (pfa_cons (pf_var 2) pfa_nil)))))
    (fs_cons (f_if (pt_cmpF (op_eqD hr.units) ok2_eq (pf_ix (pf_var 1) pf_int (fun _ _ => rfl)) pf_str (nomark _)) (fs_one (f_ret (pf_lc (own := [("v", 6)]) (t := (.nm 6)) kStill_ok (by decide) rfl sc_evaluated.nd (pfi_seq (pf_var 3)) (blkOk_by (N := ["model", "a", "forced", "first", "second", "good", "v", "w"]) (sc := defScope st_evaluated) (by decide +kernel)) (fun _ _ _ _ _ => (pg_n 6 sc_evaluated.nd)) (fun _ _ _ _ _ => (fts_one (pt_cmpF (opf_in (hu65 hr)) ok2_in (pf_var 6) (pf_var 4) (by rfl)))) (fun _ _ _ _ _ => (pf_var 6))))) fs_nil)
    (fs_cons (f_if (pt_cmpF (op_eqD hr.units) ok2_eq (pf_ix (pf_var 1) pf_int (fun _ _ => rfl)) pf_str (nomark _)) (fs_one (f_ret (pf_lc (own := [("v", 6)]) (t := (.nm 6)) kStill_ok (by decide) rfl sc_evaluated.nd (pfi_seq (pf_call cs.c_f_worlds_of hr (pass_of (takes_of rfl rfl rfl rfl)) rfl (pfa_cons (pf_var 0) pfa_nil))) (blkOk_by (N := ["model", "a", "forced", "first", "second", "good", "v", "w"]) (sc := defScope st_evaluated) (by decide +kernel)) (fun _ _ _ _ _ => (pg_n 6 sc_evaluated.nd)) (fun _ _ _ _ _ => (fts_one (PW.pt (pw_orF (pt_cmpF (opf_in (hu65 hr)) ok2_in (pf_var 6) (pf_var 3) (by rfl)) (pw_or1F (pt_cmpF (opf_in (hu65 hr)) ok2_in (pf_var 6) (pf_var 4) (by rfl))))))) (fun _ _ _ _ _ => (pf_var 6))))) fs_nil)
    (fs_cons (f_set 5 sc_evaluated.nd (pf_lc (own := [("v", 6)]) (t := (.nm 6)) kStill_ok (by decide) rfl sc_evaluated.nd (pfi_seq (pf_call cs.c_f_worlds_of hr (pass_of (takes_of rfl rfl rfl rfl)) rfl (pfa_cons (pf_var 0) pfa_nil))) (blkOk_by (N := ["model", "a", "forced", "first", "second", "good", "v", "w"]) (sc := defScope st_evaluated) (by decide +kernel)) (fun _ _ _ _ _ => (pg_n 6 sc_evaluated.nd)) (fun _ _ _ _ _ => (fts_one (PW.pt (pw_orF (pt_cmpF (opf_notIn (hu65 hr)) ok2_notIn (pf_var 6) (pf_var 3) (by rfl)) (pw_or1F (pt_cmpF (opf_in (hu65 hr)) ok2_in (pf_var 6) (pf_var 4) (by rfl))))))) (fun _ _ _ _ _ => (pf_var 6))))
    (fs_cons (f_if (pt_notF (pt_tru (pf_var 2))) (fs_one (f_ret (pf_var 5))) fs_nil)
    (fs_one (f_ret (pf_lc (own := [("v", 6)]) (t := (.nm 6)) kStill_ok (by decide) rfl sc_evaluated.nd (pfi_seq (pf_call cs.c_f_worlds_of hr (pass_of (takes_of rfl rfl rfl rfl)) rfl (pfa_cons (pf_var 0) pfa_nil))) (blkOk_by (N := ["model", "a", "forced", "first", "second", "good", "v", "w"]) (sc := defScope st_evaluated) (by decide +kernel)) (fun _ _ _ _ _ => (pg_n 6 sc_evaluated.nd)) (fun _ _ _ _ _ => (fts_one (pt_cmpF (op_eqD hr.units) ok2_eq (pf_lc (own := [("w", 7)]) (t := (.nm 7)) kStill_ok (by decide) rfl sc_evaluated.nd (pfi_seq (pf_meth cs.c_f_Model_seen hr pass_0 (pf_var 0) (pfa_cons (pf_var 6) pfa_nil))) (blkOk_by (by kernel_rfl)) (fun _ _ _ _ _ => (pg_n 7 sc_evaluated.nd)) (fun _ _ _ _ _ => (fts_one (pt_cmpF (opf_notIn (hu65 hr)) ok2_notIn (pf_var 7) (pf_var 5) (by rfl)))) (fun _ _ _ _ _ => (pf_var 7))) (pf_lst pfa_nil) (nomark _)))) (fun _ _ _ _ _ => (pf_var 6))))))))))))))

theorem ok_truth (B : Bt K mg w) (cs : Cs P w K mg base n cl) {a : Addr} {fd : FuncData} (F : Fun K "truth" "truth" st_truth a fd) : FnOk P w K mg base (L2.CX P w) (n + 1) a fd ["model", "a"] (spF ⟨K, mg, w⟩ (runDef 2 2 (b_truth cl)) 2) :=
  def_ok (ps := ["model", "a"]) F sc_truth fun cdv A outer s H E hr => by
    unfold b_truth
    exact (fs_one (f_ret (pf_call cs.c_f_evaluated hr (pass_of (takes_of rfl rfl rfl rfl)) rfl (pfa_cons (pf_var 0) (pfa_cons (pf_var 1) (pfa_cons pf_bl pfa_nil))))))

theorem ok_law_pool (B : Bt K mg w) (cs : Cs P w K mg base n cl) {a : Addr} {fd : FuncData} (F : Fun K "_law_pool" "_law_pool" st_law_pool a fd) : FnOk P w K mg base (L2.CX P w) (n + 1) a fd ["_law_script"] (spF ⟨K, mg, w⟩ (runDef 1 3 (b_law_pool cl)) 1) :=
  def_ok (ps := ["_law_script"]) F sc_law_pool fun cdv A outer s H E hr => by
    unfold b_law_pool
    exact (fs_cons (f_set 1 sc_law_pool.nd pf_int)
    (fs_cons (f_for (t := (.nm 2)) (passes_of rfl) rfl (pfi_seq (pf_sl (pf_var 0) pfo_none (pfo_some pf_int))) (pg_n 2 sc_law_pool.nd) (fs_one (f_set 1 sc_law_pool.nd (pf_op op_mod ok2_mod (pf_callTy cf_int (okL_one ok_int1) rfl B.m_int (by decide +kernel) (pfa_cons (pf_op opf_add ok2_add (pf_op op_mul ok2_mul (pf_var 1) pf_int) (pf_var 2)) pfa_nil)) pf_int))))
    (fs_one (f_ret (pf_lstM (pfa_cons (pf_callTy cf_list (okL_one ok_list) rfl B.m_list (by decide +kernel) (pfa_cons (pf_var 0) pfa_nil)) (pfa_cons pf_int (pfa_cons pf_int (pfa_cons pf_int (pfa_cons (pf_var 1) pfa_nil))))))))))

theorem ok_law_spread (B : Bt K mg w) (cs : Cs P w K mg base n cl) {a : Addr} {fd : FuncData} (F : Fun K "_law_spread" "_law_spread" st_law_spread a fd) : FnOk P w K mg base (L2.CX P w) (n + 1) a fd ["_law_cell"] (spF ⟨K, mg, w⟩ (runDef 1 4 (b_law_spread cl)) 1) :=
  def_ok (ps := ["_law_cell"]) F sc_law_spread fun cdv A outer s H E hr => by
    unfold b_law_spread
    exact (fs_cons (f_set 1 sc_law_spread.nd (pf_op op_mod ok2_mod (pf_callTy cf_int (okL_one ok_int1) rfl B.m_int (by decide +kernel) (pfa_cons (pf_var 0) pfa_nil)) pf_int))
    (fs_cons (f_set 2 sc_law_spread.nd pf_int)
    (fs_cons (f_for (t := (.nm 3)) (passes_of rfl) rfl (pfi_rng1 rfl B.m_range (pfa_cons pf_int pfa_nil)) (pg_n 3 sc_law_spread.nd) (fs_cons (f_set 1 sc_law_spread.nd (pf_op op_mod ok2_mod (pf_callTy cf_int (okL_one ok_int1) rfl B.m_int (by decide +kernel) (pfa_cons (pf_op opf_add ok2_add (pf_op opf_add ok2_add (pf_op op_mul ok2_mul (pf_var 1) pf_int) pf_int) (pf_var 3)) pfa_nil)) pf_int))
    (fs_one (f_set 2 sc_law_spread.nd (pf_op opf_add ok2_add (pf_op op_mul ok2_mul (pf_var 2) pf_int) (pf_var 1))))))
    (fs_one (f_ret (pf_var 2))))))

theorem ok_law_draw (B : Bt K mg w) (cs : Cs P w K mg base n cl) {a : Addr} {fd : FuncData} (F : Fun K "_law_draw" "_law_draw" st_law_draw a fd) : FnOk P w K mg base (L2.CX P w) (n + 1) a fd ["_law_pool_here", "_law_many"] (spF ⟨K, mg, w⟩ (runDef 2 5 (b_law_draw cl)) 2) :=
  def_ok (ps := ["_law_pool_here", "_law_many"]) F sc_law_draw fun cdv A outer s H E hr => by
    unfold b_law_draw
    exact (fs_cons (f_if (PW.pt (pw_andF (pt_cmpF op_le ok2_le (pf_ix (pf_var 0) pf_int (fun _ _ => rfl)) pf_int (nomark _)) (pw_and1F (pt_cmpF op_lt ok2_lt (pf_ix (pf_var 0) pf_int (fun _ _ => rfl)) (pf_callB cf_len (okL_one ok_len) rfl B.m_len PySem.boot_len (pfa_cons (pf_ix (pf_var 0) pf_int (fun _ _ => rfl)) pfa_nil)) (nomark _))))) (fs_cons (f_set 3 sc_law_draw.nd (pf_ix (pf_ix (pf_var 0) pf_int (fun _ _ => rfl)) (pf_ix (pf_var 0) pf_int (fun _ _ => rfl)) (fun _ _ => rfl)))
    (fs_cons (f_put (pf_op opf_add ok2_add (pf_ix (pf_var 0) pf_int (fun _ _ => rfl)) pf_int) (pf_var 0) pf_int)
    (fs_cons (f_put (pf_var 3) (pf_var 0) pf_int)
    (fs_one (f_if (pt_cmpF op_lt ok2_lt (pf_var 3) pf_int (nomark _)) (fs_one (f_put (pf_call cs.c_f_law_spread hr (pass_of (takes_of rfl rfl rfl rfl)) rfl (pfa_cons (pf_var 3) pfa_nil)) (pf_var 0) pf_int)) fs_nil))))) fs_nil)
    (fs_cons (f_put (pf_op opf_add ok2_add (pf_ix (pf_var 0) pf_int (fun _ _ => rfl)) pf_int) (pf_var 0) pf_int)
    (fs_cons (f_if (pt_cmpF op_le ok2_le (pf_ix (pf_var 0) pf_int (fun _ _ => rfl)) pf_int (nomark _)) (fs_cons (f_set 4 sc_law_draw.nd (pf_op op_mod ok2_mod (pf_callTy cf_int (okL_one ok_int1) rfl B.m_int (by decide +kernel) (pfa_cons (pf_op opf_add ok2_add (pf_op opf_add ok2_add (pf_op op_mul ok2_mul (pf_ix (pf_var 0) pf_int (fun _ _ => rfl)) pf_int) (pf_op op_mul ok2_mul (pf_ix (pf_var 0) pf_int (fun _ _ => rfl)) pf_int)) pf_int) pfa_nil)) pf_int))
    (fs_cons (f_set 4 sc_law_draw.nd (pf_op op_mod ok2_mod (pf_callTy cf_int (okL_one ok_int1) rfl B.m_int (by decide +kernel) (pfa_cons (pf_op opf_add ok2_add (pf_op op_mul ok2_mul (pf_var 4) pf_int) (pf_ix (pf_var 0) pf_int (fun _ _ => rfl))) pfa_nil)) pf_int))
    (fs_one (f_ret (pf_op op_mod ok2_mod (pf_op op_fdiv ok2_div (pf_var 4) pf_int) (pf_var 1)))))) fs_nil)
    (fs_cons (f_set 2 sc_law_draw.nd (pf_op op_mod ok2_mod (pf_callTy cf_int (okL_one ok_int1) rfl B.m_int (by decide +kernel) (pfa_cons (pf_ix (pf_var 0) pf_int (fun _ _ => rfl)) pfa_nil)) (pf_var 1)))
    (fs_cons (f_put (pf_op op_fdiv ok2_div (pf_ix (pf_var 0) pf_int (fun _ _ => rfl)) (pf_var 1)) (pf_var 0) pf_int)
    (fs_one (f_ret (pf_var 2))))))))

theorem ok_law_same (B : Bt K mg w) (cs : Cs P w K mg base n cl) {a : Addr} {fd : FuncData} (F : Fun K "_law_same" "_law_same" st_law_same a fd) : FnOk P w K mg base (L2.CX P w) (n + 1) a fd ["_law_actual", "_law_due"] (spF ⟨K, mg, w⟩ (runDef 2 3 (b_law_same cl)) 2) :=
  def_ok (ps := ["_law_actual", "_law_due"]) F sc_law_same fun cdv A outer s H E hr => by
    unfold b_law_same
    exact (fs_cons (f_if (PW.pt (pw_orF (pt_tru (pf_isi .tup rfl B.m_isinstance rfl B.m_tuple (by decide +kernel) (pf_var 1))) (pw_or1F (pt_tru (pf_isi .lst rfl B.m_isinstance rfl B.m_list (by decide +kernel) (pf_var 1)))))) (fs_cons (f_if (PW.pt (pw_orF (pt_cmpF (op_neD hr.units) ok2_ne (pf_isi .tup rfl B.m_isinstance rfl B.m_tuple (by decide +kernel) (pf_var 1)) (pf_isi .tup rfl B.m_isinstance rfl B.m_tuple (by decide +kernel) (pf_var 0)) (nomark _)) (pw_or1F (pt_cmpF (op_neD hr.units) ok2_ne (pf_isi .lst rfl B.m_isinstance rfl B.m_list (by decide +kernel) (pf_var 1)) (pf_isi .lst rfl B.m_isinstance rfl B.m_list (by decide +kernel) (pf_var 0)) (nomark _))))) (fs_one (f_ret pf_bl)) fs_nil)
    (fs_cons (f_if (pt_cmpF (op_neD hr.units) ok2_ne (pf_callB cf_len (okL_one ok_len) rfl B.m_len PySem.boot_len (pfa_cons (pf_var 0) pfa_nil)) (pf_callB cf_len (okL_one ok_len) rfl B.m_len PySem.boot_len (pfa_cons (pf_var 1) pfa_nil)) (nomark _)) (fs_one (f_ret pf_bl)) fs_nil)
    (fs_cons (f_for (t := (.nm 2)) (passes_of rfl) rfl (pfi_rng1 rfl B.m_range (pfa_cons (pf_callB cf_len (okL_one ok_len) rfl B.m_len PySem.boot_len (pfa_cons (pf_var 1) pfa_nil)) pfa_nil)) (pg_n 2 sc_law_same.nd) (fs_one (f_if (pt_notF (pt_tru (pf_call cs.c_f_law_same hr (pass_of (takes_of rfl rfl rfl rfl)) rfl (pfa_cons (pf_ix (pf_var 0) (pf_var 2) (fun _ _ => rfl)) (pfa_cons (pf_ix (pf_var 1) (pf_var 2) (fun _ _ => rfl)) pfa_nil))))) (fs_one (f_ret pf_bl)) fs_nil)))
    (fs_one (f_ret pf_bl))))) fs_nil)
    (fs_cons (f_if (pt_cmpF op_isN ok2_isN (pf_var 1) pf_non (nomark _)) (fs_one (f_ret (pf_cmp op_isN ok2_isN (pf_var 0) pf_non (nomark _)))) fs_nil)
    (fs_cons (f_if (pt_tru (pf_isi .bl rfl B.m_isinstance rfl B.m_bool (by decide +kernel) (pf_var 1))) (fs_one (f_ret (pf_and (pf_isi .bl rfl B.m_isinstance rfl B.m_bool (by decide +kernel) (pf_var 0)) (pf_one (pf_cmp (op_eqD hr.units) ok2_eq (pf_var 0) (pf_var 1) (nomark _)))))) fs_nil)
    (fs_cons (f_if (pt_tru (pf_isi .int rfl B.m_isinstance rfl B.m_int (by decide +kernel) (pf_var 1))) (fs_one (f_ret (pf_and (pf_isi .int rfl B.m_isinstance rfl B.m_int (by decide +kernel) (pf_var 0)) (pf_and (pf_not (pf_isi .bl rfl B.m_isinstance rfl B.m_bool (by decide +kernel) (pf_var 0))) (pf_one (pf_cmp (op_eqD hr.units) ok2_eq (pf_var 0) (pf_var 1) (nomark _))))))) fs_nil)
    (fs_one (f_ret (pf_and (pf_isi .str rfl B.m_isinstance rfl B.m_str (by decide +kernel) (pf_var 0)) (pf_one (pf_cmp (op_eqD hr.units) ok2_eq (pf_var 0) (pf_var 1) (nomark _))))))))))

theorem ok_law_formula (B : Bt K mg w) (cs : Cs P w K mg base n cl) {a : Addr} {fd : FuncData} (F : Fun K "_law_formula" "_law_formula" st_law_formula a fd) : FnOk P w K mg base (L2.CX P w) (n + 1) a fd ["_law_pool_here", "_law_depth", "_law_plain"] (spF ⟨K, mg, w⟩ (runDef 3 6 (b_law_formula cl)) 3) :=
  def_ok (ps := ["_law_pool_here", "_law_depth", "_law_plain"]) F sc_law_formula fun cdv A outer s H E hr => by
    unfold b_law_formula
    exact (fs_cons (f_set 3 sc_law_formula.nd pf_int)
    (fs_cons (f_if (pt_cmpF (op_neD hr.units) ok2_ne (pf_var 0) (pf_lst pfa_nil) (nomark _)) (fs_one (f_set 3 sc_law_formula.nd (pf_callTy cf_int (okL_one ok_int1) rfl B.m_int (by decide +kernel) (pfa_cons (pf_popAt (pf_var 0) (pfa_cons pf_int pfa_nil)) pfa_nil)))) fs_nil)
    (fs_cons (f_set 4 sc_law_formula.nd (pf_op op_mod ok2_mod (pf_var 3) pf_int))
    (fs_cons (f_if (PW.pt (pw_orF (pt_cmpF (op_eqD hr.units) ok2_eq (pf_var 1) pf_int (nomark _)) (pw_or1F (pt_cmpF op_lt ok2_lt (pf_var 4) pf_int (nomark _))))) (fs_cons (f_if (pt_cmpF (op_eqD hr.units) ok2_eq (pf_op op_mod ok2_mod (pf_op op_fdiv ok2_div (pf_var 3) pf_int) pf_int) pf_int (nomark _)) (fs_one (f_ret (pf_tup (pfa_cons pf_str pfa_nil)))) fs_nil)
    (fs_one (f_ret (pf_tup (pfa_cons pf_str (pfa_cons (pf_ix (pf_lst (pfa_cons pf_str (pfa_cons pf_str (pfa_cons pf_str (pfa_cons pf_str (pfa_cons pf_str pfa_nil)))))) (pf_op op_mod ok2_mod (pf_op op_fdiv ok2_div (pf_var 3) pf_int) pf_int) (fun _ _ => rfl)) pfa_nil)))))) fs_nil)
    (fs_cons (f_if (PW.pt (pw_orF (pt_cmpF (op_eqD hr.units) ok2_eq (pf_var 4) pf_int (nomark _)) (pw_or1F (PW.pt (pw_andF (pt_cmpF (opf_in (hu65 hr)) ok2_in (pf_var 4) (pf_tup (pfa_cons pf_int (pfa_cons pf_int pfa_nil))) (by rfl)) (pw_and1F (pt_tru (pf_var 2)))))))) (fs_one (f_ret (pf_tup (pfa_cons pf_str (pfa_cons (pf_call cs.c_f_law_formula hr (pass_of (takes_of rfl rfl rfl rfl)) rfl (pfa_cons (pf_var 0) (pfa_cons (pf_op op_sub ok2_sub (pf_var 1) pf_int) (pfa_cons (pf_var 2) pfa_nil)))) (pfa_cons (pf_tup (pfa_cons pf_str pfa_nil)) pfa_nil)))))) fs_nil)
    (fs_cons (f_if (pt_cmpF (opf_in (hu65 hr)) ok2_in (pf_var 4) (pf_tup (pfa_cons pf_int (pfa_cons pf_int pfa_nil))) (by rfl)) (fs_one (f_ret (pf_tup (pfa_cons pf_str (pfa_cons (pf_call cs.c_f_law_formula hr (pass_of (takes_of rfl rfl rfl rfl)) rfl (pfa_cons (pf_var 0) (pfa_cons (pf_op op_sub ok2_sub (pf_var 1) pf_int) (pfa_cons (pf_var 2) pfa_nil)))) pfa_nil))))) fs_nil)
    (fs_cons (f_set 5 sc_law_formula.nd (pf_call cs.c_f_law_formula hr (pass_of (takes_of rfl rfl rfl rfl)) rfl (pfa_cons (pf_var 0) (pfa_cons (pf_op op_sub ok2_sub (pf_var 1) pf_int) (pfa_cons (pf_var 2) pfa_nil)))))
    (fs_one (f_ret (pf_tup (pfa_cons (pf_ix (pf_lst (pfa_cons pf_str (pfa_cons pf_str (pfa_cons pf_str (pfa_cons pf_str (pfa_cons pf_str pfa_nil)))))) (pf_op op_sub ok2_sub (pf_var 4) pf_int) (fun _ _ => rfl)) (pfa_cons (pf_var 5) (pfa_cons (pf_call cs.c_f_law_formula hr (pass_of (takes_of rfl rfl rfl rfl)) rfl (pfa_cons (pf_var 0) (pfa_cons (pf_op op_sub ok2_sub (pf_var 1) pf_int) (pfa_cons (pf_var 2) pfa_nil)))) pfa_nil)))))))))))))

theorem ok_law_closed (B : Bt K mg w) (cs : Cs P w K mg base n cl) {a : Addr} {fd : FuncData} (F : Fun K "_law_closed" "_law_closed" st_law_closed a fd) : FnOk P w K mg base (L2.CX P w) (n + 1) a fd ["_law_seen", "_law_logic"] (spF ⟨K, mg, w⟩ (runDef 2 8 (b_law_closed cl)) 2) :=
  def_ok (ps := ["_law_seen", "_law_logic"]) F sc_law_closed fun cdv A outer s H E hr => by
    unfold b_law_closed
    exact (fs_cons (f_set 2 sc_law_closed.nd (pf_callB cf_len (okL_one ok_len) rfl B.m_len PySem.boot_len (pfa_cons (pf_var 0) pfa_nil)))
    (fs_cons (f_setLc 3 (own := [("_law_row", 7)]) (t := (.nm 7)) kMut_ok (by decide) rfl sc_law_closed.nd (sw_true rfl rfl rfl (by decide +kernel)) (pfi_seq (pf_var 0)) (blkOk_by (N := ["_law_seen", "_law_logic", "_law_worlds", "_law_pairs", "_law_v", "_law_u", "_law_w", "_law_row"]) (sc := defScope st_law_closed) (by decide +kernel)) (fun _ _ _ _ _ => (pg_n 7 sc_law_closed.nd)) (fun _ _ _ _ _ => fts_nil) (fun _ _ _ _ _ => (pf_callTy cf_list (okL_one ok_listM) rfl B.m_list (by decide +kernel) (pfa_cons (pf_var 7) pfa_nil))))
    (fs_cons (f_if (pt_cmpF (opf_notIn (hu65 hr)) ok2_notIn (pf_var 1) (pf_tup (pfa_cons pf_str (pfa_cons pf_str (pfa_cons pf_str (pfa_cons pf_str (pfa_cons pf_str pfa_nil)))))) (by rfl)) (fs_one (f_for (t := (.nm 4)) (passes_of rfl) rfl (pfi_rng1 rfl B.m_range (pfa_cons (pf_var 2) pfa_nil)) (pg_n 4 sc_law_closed.nd) (fs_one (f_put pf_bl (pf_ix (pf_var 3) (pf_var 4) (fun _ _ => rfl)) (pf_var 4))))) fs_nil)
    (fs_cons (f_if (pt_cmpF (op_eqD hr.units) ok2_eq (pf_var 1) pf_str (nomark _)) (fs_one (f_for (t := (.nm 4)) (passes_of rfl) rfl (pfi_rng1 rfl B.m_range (pfa_cons (pf_var 2) pfa_nil)) (pg_n 4 sc_law_closed.nd) (fs_one (f_for (t := (.nm 6)) (passes_of rfl) rfl (pfi_rng1 rfl B.m_range (pfa_cons (pf_var 2) pfa_nil)) (pg_n 6 sc_law_closed.nd) (fs_one (f_put (pf_or (pf_ix (pf_ix (pf_var 3) (pf_var 4) (fun _ _ => rfl)) (pf_var 6) (fun _ _ => rfl)) (pf_one (pf_ix (pf_ix (pf_var 3) (pf_var 6) (fun _ _ => rfl)) (pf_var 4) (fun _ _ => rfl)))) (pf_ix (pf_var 3) (pf_var 4) (fun _ _ => rfl)) (pf_var 6))))))) fs_nil)
    (fs_cons (f_if (pt_cmpF (opf_in (hu65 hr)) ok2_in (pf_var 1) (pf_tup (pfa_cons pf_str (pfa_cons pf_str pfa_nil))) (by rfl)) (fs_one (f_for (t := (.nm 4)) (passes_of rfl) rfl (pfi_rng1 rfl B.m_range (pfa_cons (pf_var 2) pfa_nil)) (pg_n 4 sc_law_closed.nd) (fs_one (f_if (pt_cmpF (opf_notIn (hu65 hr)) ok2_notIn pf_bl (pf_ix (pf_var 3) (pf_var 4) (fun _ _ => rfl)) (by rfl)) (fs_one (f_put pf_bl (pf_ix (pf_var 3) (pf_var 4) (fun _ _ => rfl)) (pf_var 4))) fs_nil)))) fs_nil)
    (fs_cons (f_if (pt_cmpF (opf_notIn (hu65 hr)) ok2_notIn (pf_var 1) (pf_tup (pfa_cons pf_str (pfa_cons pf_str (pfa_cons pf_str pfa_nil)))) (by rfl)) (fs_one (f_for (t := (.nm 5)) (passes_of rfl) rfl (pfi_rng1 rfl B.m_range (pfa_cons (pf_var 2) pfa_nil)) (pg_n 5 sc_law_closed.nd) (fs_one (f_for (t := (.nm 4)) (passes_of rfl) rfl (pfi_rng1 rfl B.m_range (pfa_cons (pf_var 2) pfa_nil)) (pg_n 4 sc_law_closed.nd) (fs_one (f_for (t := (.nm 6)) (passes_of rfl) rfl (pfi_rng1 rfl B.m_range (pfa_cons (pf_var 2) pfa_nil)) (pg_n 6 sc_law_closed.nd) (fs_one (f_put (pf_or (pf_ix (pf_ix (pf_var 3) (pf_var 4) (fun _ _ => rfl)) (pf_var 6) (fun _ _ => rfl)) (pf_one (pf_and (pf_ix (pf_ix (pf_var 3) (pf_var 4) (fun _ _ => rfl)) (pf_var 5) (fun _ _ => rfl)) (pf_one (pf_ix (pf_ix (pf_var 3) (pf_var 5) (fun _ _ => rfl)) (pf_var 6) (fun _ _ => rfl)))))) (pf_ix (pf_var 3) (pf_var 4) (fun _ _ => rfl)) (pf_var 6))))))))) fs_nil)
    (fs_one (f_ret (pf_var 3)))))))))

theorem ok_law_model (B : Bt K mg w) (cs : Cs P w K mg base n cl) {a : Addr} {fd : FuncData} (F : Fun K "_law_model" "_law_model" st_law_model a fd) : FnOk P w K mg base (L2.CX P w) (n + 1) a fd ["_law_numbers", "_law_logic", "_law_most"] (spF ⟨K, mg, w⟩ (runDef 3 16 (b_law_model cl)) 3) :=
  def_ok (ps := ["_law_numbers", "_law_logic", "_law_most"]) F sc_law_model fun cdv A outer s H E hr => by
    unfold b_law_model
    exact (fs_cons (f_set 3 sc_law_model.nd pf_int)
    (fs_cons (f_if (pt_cmpF (op_neD hr.units) ok2_ne (pf_var 0) (pf_lst pfa_nil) (nomark _)) (fs_one (f_set 3 sc_law_model.nd (pf_callTy cf_int (okL_one ok_int1) rfl B.m_int (by decide +kernel) (pfa_cons (pf_ix (pf_var 0) pf_int (fun _ _ => rfl)) pfa_nil)))) fs_nil)
    (fs_cons (f_set 4 sc_law_model.nd (pf_op opf_add ok2_add pf_int (pf_op op_mod ok2_mod (pf_var 3) (pf_var 2))))
    (fs_cons (f_set 5 sc_law_model.nd (pf_op op_fdiv ok2_div (pf_var 3) pf_int))
    (fs_cons (f_for (t := (.nm 6)) (passes_of rfl) rfl (pfi_seq (pf_sl (pf_var 0) (pfo_some pf_int) (pfo_some pf_int))) (pg_n 6 sc_law_model.nd) (fs_one (f_set 5 sc_law_model.nd (pf_op opf_add ok2_add (pf_op op_mul ok2_mul (pf_var 5) pf_int) (pf_callTy cf_int (okL_one ok_int1) rfl B.m_int (by decide +kernel) (pfa_cons (pf_var 6) pfa_nil))))))
    (fs_tell2 (f_set 7 sc_law_model.nd (pf_lstM pfa_nil)) (f_for (t := (.nm 8)) (passes_of rfl) rfl (pfi_rng1 rfl B.m_range (pfa_cons (pf_var 4) pfa_nil)) (pg_n 8 sc_law_model.nd) (fs_cons (f_set 11 sc_law_model.nd (pf_lc (own := [("_law_w", 15)]) (t := (.nm 15)) kStill_ok (by decide) rfl sc_law_model.nd (pfi_rng1 rfl B.m_range (pfa_cons (pf_var 4) pfa_nil)) (blkOk_by (N := ["_law_numbers", "_law_logic", "_law_most", "_law_first", "_law_worlds", "_law_bits", "_law_number", "_law_seen", "_law_v", "_law_values", "_law_k", "_law_row", "_law_name", "_law_mask", "_law_here", "_law_w"]) (sc := defScope st_law_model) (by decide +kernel)) (fun _ _ _ _ _ => (pg_n 15 sc_law_model.nd)) (fun _ _ _ _ _ => fts_nil) (fun _ _ _ _ _ => (pf_cmp (op_eqD hr.units) ok2_eq (pf_op op_and ok2_band (pf_op op_shr ok2_shr (pf_var 5) (pf_op opf_add ok2_add (pf_op op_mul ok2_mul (pf_var 8) (pf_var 4)) (pf_var 15))) pf_int) pf_int (nomark _)))))
    (fs_cons (f_if (pt_cmpF (opf_in (hu65 hr)) ok2_in (pf_var 1) (pf_tup (pfa_cons pf_str (pfa_cons pf_str (pfa_cons pf_str (pfa_cons pf_str (pfa_cons pf_str (pfa_cons pf_str (pfa_cons pf_str (pfa_cons pf_str pfa_nil))))))))) (by rfl)) (fs_one (f_set 11 sc_law_model.nd (pf_lc (own := [("_law_w", 15)]) (t := (.nm 15)) kStill_ok (by decide) rfl sc_law_model.nd (pfi_rng1 rfl B.m_range (pfa_cons (pf_var 4) pfa_nil)) (blkOk_by (N := ["_law_numbers", "_law_logic", "_law_most", "_law_first", "_law_worlds", "_law_bits", "_law_number", "_law_seen", "_law_v", "_law_values", "_law_k", "_law_row", "_law_name", "_law_mask", "_law_here", "_law_w"]) (sc := defScope st_law_model) (by decide +kernel)) (fun _ _ _ _ _ => (pg_n 15 sc_law_model.nd)) (fun _ _ _ _ _ => fts_nil) (fun _ _ _ _ _ => (pf_and (pf_ix (pf_var 11) (pf_var 15) (fun _ _ => rfl)) (pf_one (pf_cmp op_lt ok2_lt (pf_var 8) (pf_var 15) (nomark _)))))))) fs_nil)
    (fs_cons (f_if (pt_cmpF (opf_in (hu65 hr)) ok2_in (pf_var 1) (pf_tup (pfa_cons pf_str (pfa_cons pf_str pfa_nil))) (by rfl)) (fs_one (f_set 11 sc_law_model.nd (pf_lc (own := [("_law_w", 15)]) (t := (.nm 15)) kStill_ok (by decide) rfl sc_law_model.nd (pfi_rng1 rfl B.m_range (pfa_cons (pf_var 4) pfa_nil)) (blkOk_by (N := ["_law_numbers", "_law_logic", "_law_most", "_law_first", "_law_worlds", "_law_bits", "_law_number", "_law_seen", "_law_v", "_law_values", "_law_k", "_law_row", "_law_name", "_law_mask", "_law_here", "_law_w"]) (sc := defScope st_law_model) (by decide +kernel)) (fun _ _ _ _ _ => (pg_n 15 sc_law_model.nd)) (fun _ _ _ _ _ => fts_nil) (fun _ _ _ _ _ => (pf_cmp op_lt ok2_lt (pf_var 8) (pf_var 15) (nomark _)))))) fs_nil)
    (fs_cons (f_if (pt_cmpF (opf_in (hu65 hr)) ok2_in (pf_var 1) (pf_tup (pfa_cons pf_str pfa_nil)) (by rfl)) (fs_one (f_set 11 sc_law_model.nd (pf_lc (own := [("_law_w", 15)]) (t := (.nm 15)) kStill_ok (by decide) rfl sc_law_model.nd (pfi_rng1 rfl B.m_range (pfa_cons (pf_var 4) pfa_nil)) (blkOk_by (N := ["_law_numbers", "_law_logic", "_law_most", "_law_first", "_law_worlds", "_law_bits", "_law_number", "_law_seen", "_law_v", "_law_values", "_law_k", "_law_row", "_law_name", "_law_mask", "_law_here", "_law_w"]) (sc := defScope st_law_model) (by decide +kernel)) (fun _ _ _ _ _ => (pg_n 15 sc_law_model.nd)) (fun _ _ _ _ _ => fts_nil) (fun _ _ _ _ _ => (pf_or (pf_ix (pf_var 11) (pf_var 15) (fun _ _ => rfl)) (pf_one (pf_and (pf_cmp (op_eqD hr.units) ok2_eq (pf_var 15) (pf_op op_sub ok2_sub (pf_var 4) pf_int) (nomark _)) (pf_one (pf_cmp op_lt ok2_lt (pf_var 8) (pf_var 15) (nomark _)))))))))) fs_nil)
    (fs_cons (f_if (pt_cmpF (opf_in (hu65 hr)) ok2_in (pf_var 1) (pf_tup (pfa_cons pf_str pfa_nil)) (by rfl)) (fs_one (f_set 11 sc_law_model.nd (pf_lc (own := [("_law_w", 15)]) (t := (.nm 15)) kStill_ok (by decide) rfl sc_law_model.nd (pfi_rng1 rfl B.m_range (pfa_cons (pf_var 4) pfa_nil)) (blkOk_by (N := ["_law_numbers", "_law_logic", "_law_most", "_law_first", "_law_worlds", "_law_bits", "_law_number", "_law_seen", "_law_v", "_law_values", "_law_k", "_law_row", "_law_name", "_law_mask", "_law_here", "_law_w"]) (sc := defScope st_law_model) (by decide +kernel)) (fun _ _ _ _ _ => (pg_n 15 sc_law_model.nd)) (fun _ _ _ _ _ => fts_nil) (fun _ _ _ _ _ => (pf_and (pf_ix (pf_var 11) (pf_var 15) (fun _ _ => rfl)) (pf_one (pf_chain op_lt ok2_lt op_le ok2_le (pf_var 8) (pf_op op_fdiv ok2_div (pf_var 4) pf_int) (pf_var 15)))))))) fs_nil)
    (fs_cons (f_if (pt_cmpF (op_eqD hr.units) ok2_eq (pf_var 1) pf_str (nomark _)) (fs_one (f_set 11 sc_law_model.nd (pf_op opf_mul ok2_mulF (pf_lst (pfa_cons pf_bl pfa_nil)) (pf_var 4)))) fs_nil)
    (fs_one (f_expr (pf_append (pf_var 7) (pfa_cons (pf_var 11) pfa_nil)))))))))))
    (fs_cons (f_if (PW.pt (pw_andF (pt_cmpF (op_eqD hr.units) ok2_eq (pf_var 1) pf_str (nomark _)) (pw_and1F (pt_cmpF op_gt ok2_gt (pf_var 4) pf_int (nomark _))))) (fs_one (f_set 7 sc_law_model.nd (pf_lc (own := [("_law_v", 8)]) (t := (.nm 8)) kStill_ok (by decide) rfl sc_law_model.nd (pfi_rng1 rfl B.m_range (pfa_cons (pf_var 4) pfa_nil)) (blkOk_by (N := ["_law_numbers", "_law_logic", "_law_most", "_law_first", "_law_worlds", "_law_bits", "_law_number", "_law_seen", "_law_v", "_law_values", "_law_k", "_law_row", "_law_name", "_law_mask", "_law_here", "_law_w"]) (sc := defScope st_law_model) (by decide +kernel)) (fun _ _ _ _ _ => (pg_n 8 sc_law_model.nd)) (fun _ _ _ _ _ => fts_nil) (fun _ _ _ _ _ => (pf_lc (own := [("_law_w", 15)]) (t := (.nm 15)) kStill_ok (by decide) rfl sc_law_model.nd (pfi_rng1 rfl B.m_range (pfa_cons (pf_var 4) pfa_nil)) (blkOk_by (by kernel_rfl)) (fun _ _ _ _ _ => (pg_n 15 sc_law_model.nd)) (fun _ _ _ _ _ => fts_nil) (fun _ _ _ _ _ => (pf_and (pf_cmp op_lt ok2_lt (pf_var 8) (pf_var 15) (nomark _)) (pf_one (pf_cmp (op_eqD hr.units) ok2_eq (pf_op op_fdiv ok2_div (pf_var 8) pf_int) (pf_op op_fdiv ok2_div (pf_var 15) pf_int) (nomark _)))))))))) fs_nil)
    (fs_cons (f_set 7 sc_law_model.nd (pf_call cs.c_f_law_closed hr (pass_of (takes_of rfl rfl rfl rfl)) rfl (pfa_cons (pf_var 7) (pfa_cons (pf_var 1) pfa_nil))))
    (fs_cons (f_set 9 sc_law_model.nd pf_dnew)
    (fs_cons (f_for (t := (.nm 10)) (passes_of rfl) rfl (pfi_rng1 rfl B.m_range (pfa_cons pf_int pfa_nil)) (pg_n 10 sc_law_model.nd) (fs_cons (f_set 12 sc_law_model.nd (pf_ix pf_str (pf_var 10) (fun _ _ => rfl)))
    (fs_cons (f_set 13 sc_law_model.nd pf_int)
    (fs_cons (f_if (pt_cmpF op_gt ok2_gt (pf_callB cf_len (okL_one ok_len) rfl B.m_len PySem.boot_len (pfa_cons (pf_var 0) pfa_nil)) (pf_op opf_add ok2_add pf_int (pf_var 10)) (nomark _)) (fs_one (f_set 13 sc_law_model.nd (pf_op op_mod ok2_mod (pf_callTy cf_int (okL_one ok_int1) rfl B.m_int (by decide +kernel) (pfa_cons (pf_ix (pf_var 0) (pf_op opf_add ok2_add pf_int (pf_var 10)) (fun _ _ => rfl)) pfa_nil)) (pf_op op_shl ok2_shl pf_int (pf_var 4))))) fs_nil)
    (fs_cons (f_set 14 sc_law_model.nd (pf_lc (own := [("_law_w", 15)]) (t := (.nm 15)) kStill_ok (by decide) rfl sc_law_model.nd (pfi_rng1 rfl B.m_range (pfa_cons (pf_var 4) pfa_nil)) (blkOk_by (N := ["_law_numbers", "_law_logic", "_law_most", "_law_first", "_law_worlds", "_law_bits", "_law_number", "_law_seen", "_law_v", "_law_values", "_law_k", "_law_row", "_law_name", "_law_mask", "_law_here", "_law_w"]) (sc := defScope st_law_model) (by decide +kernel)) (fun _ _ _ _ _ => (pg_n 15 sc_law_model.nd)) (fun _ _ _ _ _ => (fts_one (pt_cmpF (op_eqD hr.units) ok2_eq (pf_op op_and ok2_band (pf_op op_shr ok2_shr (pf_var 13) (pf_var 15)) pf_int) pf_int (nomark _)))) (fun _ _ _ _ _ => (pf_var 15))))
    (fs_cons (f_if (pt_cmpF (opf_in (hu65 hr)) ok2_in (pf_var 1) (pf_tup (pfa_cons pf_str (pfa_cons pf_str (pfa_cons pf_str (pfa_cons pf_str (pfa_cons pf_str (pfa_cons pf_str pfa_nil))))))) (by rfl)) (fs_one (f_set 14 sc_law_model.nd (pf_lc (own := [("_law_w", 15)]) (t := (.nm 15)) kStill_ok (by decide) rfl sc_law_model.nd (pfi_rng1 rfl B.m_range (pfa_cons (pf_var 4) pfa_nil)) (blkOk_by (N := ["_law_numbers", "_law_logic", "_law_most", "_law_first", "_law_worlds", "_law_bits", "_law_number", "_law_seen", "_law_v", "_law_values", "_law_k", "_law_row", "_law_name", "_law_mask", "_law_here", "_law_w"]) (sc := defScope st_law_model) (by decide +kernel)) (fun _ _ _ _ _ => (pg_n 15 sc_law_model.nd)) (fun _ _ _ _ _ => (fts_one (pt_cmpF (opf_in (hu65 hr)) ok2_in pf_bl (pf_lc (own := [("_law_v", 8)]) (t := (.nm 8)) kStill_ok (by decide) rfl sc_law_model.nd (pfi_seq (pf_var 14)) (blkOk_by (by kernel_rfl)) (fun _ _ _ _ _ => (pg_n 8 sc_law_model.nd)) (fun _ _ _ _ _ => fts_nil) (fun _ _ _ _ _ => (pf_ix (pf_ix (pf_var 7) (pf_var 8) (fun _ _ => rfl)) (pf_var 15) (fun _ _ => rfl)))) (by rfl)))) (fun _ _ _ _ _ => (pf_var 15))))) fs_nil)
    (fs_one (f_dput (hu1 hr) (pf_var 14) (pf_var 9) (pf_var 12)))))))))
    (fs_one (f_ret (pf_tup (pfa_cons (pf_var 7) (pfa_cons (pf_var 9) pfa_nil)))))))))))))))

theorem ok_law_true (B : Bt K mg w) (cs : Cs P w K mg base n cl) {a : Addr} {fd : FuncData} (F : Fun K "_law_true" "_law_true" st_law_true a fd) : FnOk P w K mg base (L2.CX P w) (n + 1) a fd ["_law_model_here", "_law_a", "_law_w", "_law_forced"] (spF ⟨K, mg, w⟩ (runDef 4 6 (b_law_true cl)) 4) :=
  def_ok (ps := ["_law_model_here", "_law_a", "_law_w", "_law_forced"]) F sc_law_true fun cdv A outer s H E hr => by
    unfold b_law_true
    exact (fs_cons (f_set 4 sc_law_true.nd (pf_ix (pf_var 0) pf_int (fun _ _ => rfl)))
    (fs_cons (f_if (pt_cmpF (op_eqD hr.units) ok2_eq (pf_ix (pf_var 1) pf_int (fun _ _ => rfl)) pf_str (nomark _)) (fs_one (f_ret pf_bl)) fs_nil)
    (fs_cons (f_if (pt_cmpF (op_eqD hr.units) ok2_eq (pf_ix (pf_var 1) pf_int (fun _ _ => rfl)) pf_str (nomark _)) (fs_one (f_ret (pf_cmp (opf_in (hu65 hr)) ok2_in (pf_var 2) (pf_dgetD (hu1 hr) (pf_ix (pf_var 0) pf_int (fun _ _ => rfl)) (pf_ix (pf_var 1) pf_int (fun _ _ => rfl)) (pf_lst pfa_nil)) (by rfl)))) fs_nil)
    (fs_cons (f_if (pt_cmpF (op_eqD hr.units) ok2_eq (pf_ix (pf_var 1) pf_int (fun _ _ => rfl)) pf_str (nomark _)) (fs_one (f_ret (pf_and (pf_call cs.c_f_law_true hr (pass_of (takes_of rfl rfl rfl rfl)) rfl (pfa_cons (pf_var 0) (pfa_cons (pf_ix (pf_var 1) pf_int (fun _ _ => rfl)) (pfa_cons (pf_var 2) (pfa_cons (pf_var 3) pfa_nil))))) (pf_one (pf_call cs.c_f_law_true hr (pass_of (takes_of rfl rfl rfl rfl)) rfl (pfa_cons (pf_var 0) (pfa_cons (pf_ix (pf_var 1) pf_int (fun _ _ => rfl)) (pfa_cons (pf_var 2) (pfa_cons (pf_var 3) pfa_nil))))))))) fs_nil)
    (fs_cons (f_if (pt_cmpF (op_eqD hr.units) ok2_eq (pf_ix (pf_var 1) pf_int (fun _ _ => rfl)) pf_str (nomark _)) (fs_one (f_ret (pf_or (pf_call cs.c_f_law_true hr (pass_of (takes_of rfl rfl rfl rfl)) rfl (pfa_cons (pf_var 0) (pfa_cons (pf_ix (pf_var 1) pf_int (fun _ _ => rfl)) (pfa_cons (pf_var 2) (pfa_cons (pf_var 3) pfa_nil))))) (pf_one (pf_call cs.c_f_law_true hr (pass_of (takes_of rfl rfl rfl rfl)) rfl (pfa_cons (pf_var 0) (pfa_cons (pf_ix (pf_var 1) pf_int (fun _ _ => rfl)) (pfa_cons (pf_var 2) (pfa_cons (pf_var 3) pfa_nil))))))))) fs_nil)
    (fs_cons (f_if (pt_cmpF (op_eqD hr.units) ok2_eq (pf_ix (pf_var 1) pf_int (fun _ _ => rfl)) pf_str (nomark _)) (fs_cons (f_for (t := (.nm 5)) (passes_of rfl) rfl (pfi_rng1 rfl B.m_range (pfa_cons (pf_callB cf_len (okL_one ok_len) rfl B.m_len PySem.boot_len (pfa_cons (pf_var 4) pfa_nil)) pfa_nil)) (pg_n 5 sc_law_true.nd) (fs_one (f_if (PW.pt (pw_andF (pt_tru (pf_ix (pf_ix (pf_var 4) (pf_var 2) (fun _ _ => rfl)) (pf_var 5) (fun _ _ => rfl))) (pw_and1F (pt_notF (pt_tru (pf_call cs.c_f_law_true hr (pass_of (takes_of rfl rfl rfl rfl)) rfl (pfa_cons (pf_var 0) (pfa_cons (pf_ix (pf_var 1) pf_int (fun _ _ => rfl)) (pfa_cons (pf_var 5) (pfa_cons (pf_var 3) pfa_nil)))))))))) (fs_one (f_ret pf_bl)) fs_nil)))
    (fs_one (f_ret pf_bl))) fs_nil)
    (fs_cons (f_for (t := (.nm 5)) (passes_of rfl) rfl (pfi_rng1 rfl B.m_range (pfa_cons (pf_callB cf_len (okL_one ok_len) rfl B.m_len PySem.boot_len (pfa_cons (pf_var 4) pfa_nil)) pfa_nil)) (pg_n 5 sc_law_true.nd) (fs_one (f_if (PW.pt (pw_orF (PW.pt (pw_andF (pt_cmpF (op_eqD hr.units) ok2_eq (pf_var 5) (pf_var 2) (nomark _)) (pw_and1F (pt_notF (pt_tru (pf_var 3)))))) (pw_or1F (PW.pt (pw_andF (pt_tru (pf_var 3)) (pw_and1F (pt_tru (pf_ix (pf_ix (pf_var 4) (pf_var 2) (fun _ _ => rfl)) (pf_var 5) (fun _ _ => rfl))))))))) (fs_one (f_if (PW.pt (pw_andF (pt_tru (pf_call cs.c_f_law_true hr (pass_of (takes_of rfl rfl rfl rfl)) rfl (pfa_cons (pf_var 0) (pfa_cons (pf_ix (pf_var 1) pf_int (fun _ _ => rfl)) (pfa_cons (pf_var 5) (pfa_cons (pf_var 3) pfa_nil)))))) (pw_and1F (pt_notF (pt_tru (pf_call cs.c_f_law_true hr (pass_of (takes_of rfl rfl rfl rfl)) rfl (pfa_cons (pf_var 0) (pfa_cons (pf_ix (pf_var 1) pf_int (fun _ _ => rfl)) (pfa_cons (pf_var 5) (pfa_cons (pf_var 3) pfa_nil)))))))))) (fs_one (f_ret pf_bl)) fs_nil)) fs_nil)))
    (fs_one (f_ret pf_bl)))))))))

theorem ok_law_list (B : Bt K mg w) (cs : Cs P w K mg base n cl) {a : Addr} {fd : FuncData} (F : Fun K "_law_list" "_law_list" st_law_list a fd) : FnOk P w K mg base (L2.CX P w) (n + 1) a fd ["_law_pool_here", "_law_many"] (spF ⟨K, mg, w⟩ (runDef 2 3 (b_law_list cl)) 2) :=
  def_ok (ps := ["_law_pool_here", "_law_many"]) F sc_law_list fun cdv A outer s H E hr => by
    unfold b_law_list
    exact (fs_one (f_ret (pf_lc (own := [("_law_k", 2)]) (t := (.nm 2)) kMut_ok (by decide) rfl sc_law_list.nd (pfi_rng1 rfl B.m_range (pfa_cons (pf_var 1) pfa_nil)) (blkOk_by (N := ["_law_pool_here", "_law_many", "_law_k"]) (sc := defScope st_law_list) (by decide +kernel)) (fun _ _ _ _ _ => (pg_n 2 sc_law_list.nd)) (fun _ _ _ _ _ => fts_nil) (fun _ _ _ _ _ => (pf_call cs.c_f_law_draw hr pass_0 rfl (pfa_cons (pf_var 0) (pfa_cons pf_int pfa_nil)))))))

theorem ok_law_some (B : Bt K mg w) (cs : Cs P w K mg base n cl) {a : Addr} {fd : FuncData} (F : Fun K "_law_some" "_law_some" st_law_some a fd) : FnOk P w K mg base (L2.CX P w) (n + 1) a fd ["_law_pool_here", "_law_depth", "_law_plain"] (spF ⟨K, mg, w⟩ (runDef 3 3 (b_law_some cl)) 3) :=
  def_ok (ps := ["_law_pool_here", "_law_depth", "_law_plain"]) F sc_law_some fun cdv A outer s H E hr => by
    unfold b_law_some
    exact (fs_one (f_ret (pf_call cs.c_f_law_formula hr (pass_of (takes_of rfl rfl rfl rfl)) rfl (pfa_cons (pf_call cs.c_f_law_list hr (pass_of (takes_of rfl rfl rfl rfl)) rfl (pfa_cons (pf_var 0) (pfa_cons pf_int pfa_nil))) (pfa_cons (pf_var 1) (pfa_cons (pf_var 2) pfa_nil))))))

theorem ok_law_where (B : Bt K mg w) (cs : Cs P w K mg base n cl) {a : Addr} {fd : FuncData} (F : Fun K "_law_where" "_law_where" st_law_where a fd) : FnOk P w K mg base (L2.CX P w) (n + 1) a fd ["_law_model_here", "_law_a", "_law_forced"] (spF ⟨K, mg, w⟩ (runDef 3 4 (b_law_where cl)) 3) :=
  def_ok (ps := ["_law_model_here", "_law_a", "_law_forced"]) F sc_law_where fun cdv A outer s H E hr => by
    unfold b_law_where
    exact (fs_one (f_ret (pf_lc (own := [("_law_w", 3)]) (t := (.nm 3)) kStill_ok (by decide) rfl sc_law_where.nd (pfi_rng1 rfl B.m_range (pfa_cons (pf_callB cf_len (okL_one ok_len) rfl B.m_len PySem.boot_len (pfa_cons (pf_ix (pf_var 0) pf_int (fun _ _ => rfl)) pfa_nil)) pfa_nil)) (blkOk_by (N := ["_law_model_here", "_law_a", "_law_forced", "_law_w"]) (sc := defScope st_law_where) (by decide +kernel)) (fun _ _ _ _ _ => (pg_n 3 sc_law_where.nd)) (fun _ _ _ _ _ => (fts_one (pt_tru (pf_call cs.c_f_law_true hr pass_0 rfl (pfa_cons (pf_var 0) (pfa_cons (pf_var 1) (pfa_cons (pf_var 3) (pfa_cons (pf_var 2) pfa_nil)))))))) (fun _ _ _ _ _ => (pf_var 3)))))

theorem ok_law_drawn_model (B : Bt K mg w) (cs : Cs P w K mg base n cl) {a : Addr} {fd : FuncData} (F : Fun K "_law_drawn_model" "_law_drawn_model" st_law_drawn_model a fd) : FnOk P w K mg base (L2.CX P w) (n + 1) a fd ["_law_pool_here", "_law_logic", "_law_most"] (spF ⟨K, mg, w⟩ (runDef 3 3 (b_law_drawn_model cl)) 3) :=
  def_ok (ps := ["_law_pool_here", "_law_logic", "_law_most"]) F sc_law_drawn_model fun cdv A outer s H E hr => by
    unfold b_law_drawn_model
    exact (fs_one (f_ret (pf_call cs.c_f_law_model hr (pass_of (takes_of rfl rfl rfl rfl)) rfl (pfa_cons (pf_call cs.c_f_law_list hr (pass_of (takes_of rfl rfl rfl rfl)) rfl (pfa_cons (pf_var 0) (pfa_cons pf_int pfa_nil))) (pfa_cons (pf_var 1) (pfa_cons (pf_var 2) pfa_nil))))))

theorem ok_law_wide_model (B : Bt K mg w) (cs : Cs P w K mg base n cl) {a : Addr} {fd : FuncData} (F : Fun K "_law_wide_model" "_law_wide_model" st_law_wide_model a fd) : FnOk P w K mg base (L2.CX P w) (n + 1) a fd ["_law_pool_here", "_law_most"] (spF ⟨K, mg, w⟩ (runDef 2 9 (b_law_wide_model cl)) 2) :=
  def_ok (ps := ["_law_pool_here", "_law_most"]) F sc_law_wide_model fun cdv A outer s H E hr => by
    unfold b_law_wide_model
    exact (fs_cons (f_set 2 sc_law_wide_model.nd (pf_op opf_add ok2_add pf_int (pf_call cs.c_f_law_draw hr (pass_of (takes_of rfl rfl rfl rfl)) rfl (pfa_cons (pf_var 0) (pfa_cons (pf_var 1) pfa_nil)))))
    (fs_cons (f_set 3 sc_law_wide_model.nd (pf_op opf_add ok2_add pf_int (pf_call cs.c_f_law_draw hr (pass_of (takes_of rfl rfl rfl rfl)) rfl (pfa_cons (pf_var 0) (pfa_cons pf_int pfa_nil)))))
    (fs_cons (f_setLc 4 (own := [("_law_v", 7)]) (t := (.nm 7)) kStill_ok (by decide) rfl sc_law_wide_model.nd (sw_true rfl rfl rfl (by decide +kernel)) (pfi_rng1 rfl B.m_range (pfa_cons (pf_var 2) pfa_nil)) (blkOk_by (N := ["_law_pool_here", "_law_most", "_law_worlds", "_law_dense", "_law_seen", "_law_values", "_law_name", "_law_v", "_law_w"]) (sc := defScope st_law_wide_model) (by decide +kernel)) (fun _ _ _ _ _ => (pg_n 7 sc_law_wide_model.nd)) (fun _ _ _ _ _ => fts_nil) (fun _ _ _ _ _ => (pf_lc (own := [("_law_w", 8)]) (t := (.nm 8)) kStill_ok (by decide) rfl sc_law_wide_model.nd (pfi_rng1 rfl B.m_range (pfa_cons (pf_var 2) pfa_nil)) (blkOk_by (by kernel_rfl)) (fun _ _ _ _ _ => (pg_n 8 sc_law_wide_model.nd)) (fun _ _ _ _ _ => fts_nil) (fun _ _ _ _ _ => (pf_cmp op_lt ok2_lt (pf_call cs.c_f_law_draw hr pass_0 rfl (pfa_cons (pf_var 0) (pfa_cons pf_int pfa_nil))) (pf_var 3) (nomark _))))))
    (fs_cons (f_set 5 sc_law_wide_model.nd pf_dnew)
    (fs_cons (f_for (t := (.nm 6)) (passes_of rfl) rfl (pfi_seq (pf_tup (pfa_cons pf_str (pfa_cons pf_str (pfa_cons pf_str pfa_nil))))) (pg_n 6 sc_law_wide_model.nd) (fs_one (f_dput (hu1 hr) (pf_lc (own := [("_law_w", 8)]) (t := (.nm 8)) kStill_ok (by decide) rfl sc_law_wide_model.nd (pfi_rng1 rfl B.m_range (pfa_cons (pf_var 2) pfa_nil)) (blkOk_by (N := ["_law_pool_here", "_law_most", "_law_worlds", "_law_dense", "_law_seen", "_law_values", "_law_name", "_law_v", "_law_w"]) (sc := defScope st_law_wide_model) (by decide +kernel)) (fun _ _ _ _ _ => (pg_n 8 sc_law_wide_model.nd)) (fun _ _ _ _ _ => (fts_one (pt_cmpF (op_eqD hr.units) ok2_eq (pf_call cs.c_f_law_draw hr pass_0 rfl (pfa_cons (pf_var 0) (pfa_cons pf_int pfa_nil))) pf_int (nomark _)))) (fun _ _ _ _ _ => (pf_var 8))) (pf_var 5) (pf_var 6))))
    (fs_one (f_ret (pf_tup (pfa_cons (pf_var 4) (pfa_cons (pf_var 5) pfa_nil))))))))))

theorem ok_law_program_model (B : Bt K mg w) (cs : Cs P w K mg base n cl) {a : Addr} {fd : FuncData} (F : Fun K "_law_program_model" "_law_program_model" st_law_program_model a fd) : FnOk P w K mg base (L2.CX P w) (n + 1) a fd ["_law_model_here"] (spF ⟨K, mg, w⟩ (runDef 1 3 (b_law_program_model cl)) 1) :=
  def_ok (ps := ["_law_model_here"]) F sc_law_program_model fun cdv A outer s H E hr => by
    unfold b_law_program_model
    exact (fs_cons (f_set 1 sc_law_program_model.nd pf_dnew)
    (fs_cons (f_forX (t := (.nm 2)) 0 1 (passes_of rfl) rfl (pg_n 2 sc_law_program_model.nd) (fs_one (f_dput (hu1 hr) (pf_callTy cf_list (okL_one ok_list) rfl B.m_list (by decide +kernel) (pfa_cons (pf_dget (hu1 hr) (pf_ix (pf_var 0) pf_int (fun _ _ => rfl)) (pf_var 2) (fun _ _ => rfl)) pfa_nil)) (pf_var 1) (pf_var 2))))
    (fs_one (f_ret (pf_tup (pfa_cons (pf_call cs.c_f_law_framed hr (pass_of (takes_of rfl rfl rfl rfl)) rfl (pfa_cons (pf_ix (pf_var 0) pf_int (fun _ _ => rfl)) pfa_nil)) (pfa_cons (pf_var 1) pfa_nil)))))))

theorem ok_law_names (B : Bt K mg w) (cs : Cs P w K mg base n cl) {a : Addr} {fd : FuncData} (F : Fun K "_law_names" "_law_names" st_law_names a fd) : FnOk P w K mg base (L2.CX P w) (n + 1) a fd [] (spF ⟨K, mg, w⟩ (runDef 0 0 (b_law_names cl)) 0) :=
  def_ok (ps := []) F sc_law_names fun cdv A outer s H E hr => by
    unfold b_law_names
    exact (fs_one (f_ret (pf_lst (pfa_cons pf_str (pfa_cons pf_str (pfa_cons pf_str (pfa_cons pf_str (pfa_cons pf_str (pfa_cons pf_str (pfa_cons pf_str (pfa_cons pf_str (pfa_cons pf_str (pfa_cons pf_str (pfa_cons pf_str (pfa_cons pf_str (pfa_cons pf_str (pfa_cons pf_str (pfa_cons pf_str pfa_nil))))))))))))))))))

theorem ok_law_any_model (B : Bt K mg w) (cs : Cs P w K mg base n cl) {a : Addr} {fd : FuncData} (F : Fun K "_law_any_model" "_law_any_model" st_law_any_model a fd) : FnOk P w K mg base (L2.CX P w) (n + 1) a fd ["_law_pool_here", "_law_most"] (spF ⟨K, mg, w⟩ (runDef 2 2 (b_law_any_model cl)) 2) :=
  def_ok (ps := ["_law_pool_here", "_law_most"]) F sc_law_any_model fun cdv A outer s H E hr => by
    unfold b_law_any_model
    exact (fs_cons (f_if (pt_cmpF (op_eqD hr.units) ok2_eq (pf_call cs.c_f_law_draw hr (pass_of (takes_of rfl rfl rfl rfl)) rfl (pfa_cons (pf_var 0) (pfa_cons pf_int pfa_nil))) pf_int (nomark _)) (fs_one (f_ret (pf_call cs.c_f_law_wide_model hr (pass_of (takes_of rfl rfl rfl rfl)) rfl (pfa_cons (pf_var 0) (pfa_cons (pf_var 1) pfa_nil))))) fs_nil)
    (fs_one (f_ret (pf_call cs.c_f_law_drawn_model hr (pass_of (takes_of rfl rfl rfl rfl)) rfl (pfa_cons (pf_var 0) (pfa_cons (pf_ix (pf_call0 cs.c_f_law_names hr (pass_of (takes_of rfl rfl rfl rfl)) rfl) (pf_call cs.c_f_law_draw hr (pass_of (takes_of rfl rfl rfl rfl)) rfl (pfa_cons (pf_var 0) (pfa_cons pf_int pfa_nil))) (fun _ _ => rfl)) (pfa_cons (pf_var 1) pfa_nil)))))))

theorem ok_law_grid (B : Bt K mg w) (cs : Cs P w K mg base n cl) {a : Addr} {fd : FuncData} (F : Fun K "_law_grid" "_law_grid" st_law_grid a fd) : FnOk P w K mg base (L2.CX P w) (n + 1) a fd ["_law_first", "_law_second"] (spF ⟨K, mg, w⟩ (runDef 2 5 (b_law_grid cl)) 2) :=
  def_ok (ps := ["_law_first", "_law_second"]) F sc_law_grid fun cdv A outer s H E hr => by
    unfold b_law_grid
    exact (fs_cons (f_set 2 sc_law_grid.nd (pf_lstM pfa_nil))
    (fs_cons (f_for (t := (.nm 3)) (passes_of rfl) rfl (pfi_rng1 rfl B.m_range (pfa_cons (pf_var 0) pfa_nil)) (pg_n 3 sc_law_grid.nd) (fs_one (f_for (t := (.nm 4)) (passes_of rfl) rfl (pfi_rng1 rfl B.m_range (pfa_cons (pf_var 1) pfa_nil)) (pg_n 4 sc_law_grid.nd) (fs_one (f_expr (pf_append (pf_var 2) (pfa_cons (pf_tup (pfa_cons (pf_var 3) (pfa_cons (pf_var 4) pfa_nil))) pfa_nil)))))))
    (fs_one (f_ret (pf_var 2)))))

theorem ok_law_framed (B : Bt K mg w) (cs : Cs P w K mg base n cl) {a : Addr} {fd : FuncData} (F : Fun K "_law_framed" "_law_framed" st_law_framed a fd) : FnOk P w K mg base (L2.CX P w) (n + 1) a fd ["_law_seen"] (spF ⟨K, mg, w⟩ (runDef 1 3 (b_law_framed cl)) 1) :=
  def_ok (ps := ["_law_seen"]) F sc_law_framed fun cdv A outer s H E hr => by
    unfold b_law_framed
    exact (fs_cons (f_set 1 sc_law_framed.nd (pf_call cs.c_f_law_grid hr (pass_of (takes_of rfl rfl rfl rfl)) rfl (pfa_cons (pf_callB cf_len (okL_one ok_len) rfl B.m_len PySem.boot_len (pfa_cons (pf_var 0) pfa_nil)) (pfa_cons (pf_callB cf_len (okL_one ok_len) rfl B.m_len PySem.boot_len (pfa_cons (pf_var 0) pfa_nil)) pfa_nil))))
    (fs_one (f_ret (pf_tup (pfa_cons (pf_callB cf_len (okL_one ok_len) rfl B.m_len PySem.boot_len (pfa_cons (pf_var 0) pfa_nil)) (pfa_cons (pf_callTy cf_tuple (okL_one ok_tuple) rfl B.m_tuple (by decide +kernel) (pfa_cons (pf_lc (own := [("_law_pair", 2)]) (t := (.nm 2)) kStill_ok (by decide) rfl sc_law_framed.nd (pfi_seq (pf_var 1)) (blkOk_by (N := ["_law_seen", "_law_pairs", "_law_pair"]) (sc := defScope st_law_framed) (by decide +kernel)) (fun _ _ _ _ _ => (pg_n 2 sc_law_framed.nd)) (fun _ _ _ _ _ => (fts_one (pt_tru (pf_ix (pf_ix (pf_var 0) (pf_ix (pf_var 2) pf_int (fun _ _ => rfl)) (fun _ _ => rfl)) (pf_ix (pf_var 2) pf_int (fun _ _ => rfl)) (fun _ _ => rfl))))) (fun _ _ _ _ _ => (pf_var 2))) pfa_nil)) pfa_nil))))))

theorem ok_law (B : Bt K mg w) (cs : Cs P w K mg base n cl) {a : Addr} {fd : FuncData} (F : Fun K "law" "law" st_law a fd) : FnOk P w K mg base (L2.CX P w) (n + 1) a fd ["_law_script"] (spF ⟨K, mg, w⟩ (runDef 1 6 (b_law cl)) 1) :=
  def_ok (ps := ["_law_script"]) F sc_law fun cdv A outer s H E hr => by
    unfold b_law
    exact (fs_cons (f_set 1 sc_law.nd (pf_call cs.c_f_law_pool hr (pass_of (takes_of rfl rfl rfl rfl)) rfl (pfa_cons (pf_var 0) pfa_nil)))
    (fs_cons (f_tell (f_set 2 sc_law.nd (pf_call cs.c_f_law_any_model hr (pass_of (takes_of rfl rfl rfl rfl)) rfl (pfa_cons (pf_var 1) (pfa_cons pf_int pfa_nil)))))
    (fs_cons (f_set 3 sc_law.nd (pf_call cs.c_f_law_program_model hr (pass_of (takes_of rfl rfl rfl rfl)) rfl (pfa_cons (pf_var 2) pfa_nil)))
    (fs_cons (f_set 3 sc_law.nd (pf_make cs.c_f_Model hr (pass_of (takes_of rfl rfl rfl rfl)) rfl (pfa_cons (pf_ix (pf_var 3) pf_int (fun _ _ => rfl)) (pfa_cons (pf_ix (pf_var 3) pf_int (fun _ _ => rfl)) pfa_nil))))
    (fs_cons (f_for (t := (.nm 4)) (passes_of rfl) rfl (pfi_rng1 rfl B.m_range (pfa_cons pf_int pfa_nil)) (pg_n 4 sc_law.nd) (fs_cons (f_set 5 sc_law.nd (pf_call cs.c_f_law_some hr (pass_of (takes_of rfl rfl rfl rfl)) rfl (pfa_cons (pf_var 1) (pfa_cons (pf_op opf_add ok2_add pf_int (pf_call cs.c_f_law_draw hr (pass_of (takes_of rfl rfl rfl rfl)) rfl (pfa_cons (pf_var 1) (pfa_cons pf_int pfa_nil)))) (pfa_cons pf_bl pfa_nil)))))
    (fs_one (f_if (pt_notF (pt_tru (pf_call cs.c_f_law_same hr (pass_of (takes_of rfl rfl rfl rfl)) rfl (pfa_cons (pf_call cs.c_f_truth hr (pass_of (takes_of rfl rfl rfl rfl)) rfl (pfa_cons (pf_var 3) (pfa_cons (pf_var 5) pfa_nil))) (pfa_cons (pf_call cs.c_f_law_where hr (pass_of (takes_of rfl rfl rfl rfl)) rfl (pfa_cons (pf_var 2) (pfa_cons (pf_var 5) (pfa_cons pf_bl pfa_nil)))) pfa_nil))))) (fs_one (f_ret pf_bl)) fs_nil))))
    (fs_one (f_ret pf_bl)))))))

theorem ok_Model_init (B : Bt K mg w) (cs : Cs P w K mg base n cl) {a : Addr} {fd : FuncData} (F : Fun K "__init__" "Model.__init__" st_Model_init a fd) : FnOk P w K mg base (L2.CX P w) (n + 1) a fd ["self", "frame", "values"] (spF ⟨K, mg, w⟩ (runDef 3 7 (b_Model_init cl)) 3) :=
  def_ok (ps := ["self", "frame", "values"]) F sc_Model_init fun cdv A outer s H E hr => by
    unfold b_Model_init
    exact (fs_cons (f_if (pt_notF (pt_tru (pf_call cs.c_f_is_frame hr (pass_of (takes_of rfl rfl rfl rfl)) rfl (pfa_cons (pf_var 1) pfa_nil)))) (fs_one (f_raise (B.xt.ad "InvalidModel" (by decide +kernel)).1 rfl (takes_of rfl rfl rfl rfl) rfl)) fs_nil)
    (fs_cons (f_setF B.k_Model (pf_var 0) (pf_tup (pfa_cons (pf_ix (pf_var 1) pf_int (fun _ _ => rfl)) (pfa_cons (pf_callTy cf_tuple (okL_one ok_tuple) rfl B.m_tuple (by decide +kernel) (pfa_cons (pf_ix (pf_var 1) pf_int (fun _ _ => rfl)) pfa_nil)) pfa_nil))))
    (fs_cons (f_setF B.k_Model (pf_var 0) (pf_lc (own := [("_", 6)]) (t := (.nm 6)) kMut_ok (by decide) rfl sc_Model_init.nd (pfi_rng1 rfl B.m_range (pfa_cons (pf_ix (pf_var 1) pf_int (fun _ _ => rfl)) pfa_nil)) (blkOk_by (N := ["self", "frame", "values", "v", "w", "name", "_"]) (sc := defScope st_Model_init) (by decide +kernel)) (fun _ _ _ _ _ => (pg_n 6 sc_Model_init.nd)) (fun _ _ _ _ _ => fts_nil) (fun _ _ _ _ _ => (pf_lstM pfa_nil))))
    (fs_cons (f_for (t := (.tp [3, 4])) (passes_of rfl) rfl (pfi_seq (pf_ix (pf_var 1) pf_int (fun _ _ => rfl))) (pg_t rfl (pgn_cons (pg_n 3 sc_Model_init.nd) (pgn_cons (pg_n 4 sc_Model_init.nd) pgn_nil))) (fs_one (f_expr (pf_append (pf_ix (pf_fld B.k_Model (pf_var 0)) (pf_var 3) (fun _ _ => rfl)) (pfa_cons (pf_var 4) pfa_nil)))))
    (fs_cons (f_setF B.k_Model (pf_var 0) pf_dnew)
    (fs_one (f_forD (t := (.nm 5)) 2 (passes_of rfl) rfl (pg_n 5 sc_Model_init.nd) (fs_cons (f_for (t := (.nm 4)) (passes_of rfl) rfl (pfi_seq (pf_dget (hu1 hr) (pf_var 2) (pf_var 5) (fun _ _ => rfl))) (pg_n 4 sc_Model_init.nd) (fs_one (f_if (pt_notF (pt_tru (pf_call cs.c_f_is_world hr (pass_of (takes_of rfl rfl rfl rfl)) rfl (pfa_cons (pf_var 4) (pfa_cons (pf_ix (pf_var 1) pf_int (fun _ _ => rfl)) pfa_nil))))) (fs_one (f_raise (B.xt.ad "InvalidModel" (by decide +kernel)).1 rfl (takes_of rfl rfl rfl rfl) rfl)) fs_nil)))
    (fs_one (f_if (pt_cmpF op_gt ok2_gt (pf_callB cf_len (okL_one ok_len) rfl B.m_len PySem.boot_len (pfa_cons (pf_dget (hu1 hr) (pf_var 2) (pf_var 5) (fun _ _ => rfl)) pfa_nil)) pf_int (nomark _)) (fs_one (f_dput (hu1 hr) (pf_sortSet rfl (hu70 hr) rfl B.m_sorted rfl B.m_set (pfa_cons (pf_dget (hu1 hr) (pf_var 2) (pf_var 5) (fun _ _ => rfl)) pfa_nil)) (pf_fld B.k_Model (pf_var 0)) (pf_var 5))) fs_nil))))))))))

theorem ok_Model_frame (B : Bt K mg w) (cs : Cs P w K mg base n cl) {a : Addr} {fd : FuncData} (F : Fun K "frame" "Model.frame" st_Model_frame a fd) : FnOk P w K mg base (L2.CX P w) (n + 1) a fd ["self"] (spF ⟨K, mg, w⟩ (runDef 1 1 (b_Model_frame cl)) 1) :=
  def_ok (ps := ["self"]) F sc_Model_frame fun cdv A outer s H E hr => by
    unfold b_Model_frame
    exact (fs_one (f_ret (pf_fld B.k_Model (pf_var 0))))

theorem ok_Model_true_worlds (B : Bt K mg w) (cs : Cs P w K mg base n cl) {a : Addr} {fd : FuncData} (F : Fun K "true_worlds" "Model.true_worlds" st_Model_true_worlds a fd) : FnOk P w K mg base (L2.CX P w) (n + 1) a fd ["self"] (spF ⟨K, mg, w⟩ (runDef 1 2 (b_Model_true_worlds cl)) 1) :=
  def_ok (ps := ["self"]) F sc_Model_true_worlds fun cdv A outer s H E hr => by
    unfold b_Model_true_worlds
    exact (fs_one (f_ret (pf_dcA (own := [("name", 1)]) (t := (.nm 1)) 0 B.k_Model (by decide) rfl sc_Model_true_worlds.nd (blkOk_by (N := ["self", "name"]) (sc := defScope st_Model_true_worlds) (by decide +kernel)) (fun _ _ _ _ _ => (pg_n 1 sc_Model_true_worlds.nd)) (fun _ _ _ _ _ => (pf_var 1)) (fun _ _ _ _ _ => (pf_callTy cf_list (okL_one ok_list) rfl B.m_list (by decide +kernel) (pfa_cons (pf_dget (hu1 hr) (pf_fld B.k_Model (pf_var 0)) (pf_var 1) (fun _ _ => rfl)) pfa_nil))))))

theorem ok_Model_seen (B : Bt K mg w) (cs : Cs P w K mg base n cl) {a : Addr} {fd : FuncData} (F : Fun K "seen" "Model.seen" st_Model_seen a fd) : FnOk P w K mg base (L2.CX P w) (n + 1) a fd ["self", "v"] (spF ⟨K, mg, w⟩ (runDef 2 2 (b_Model_seen cl)) 2) :=
  def_ok (ps := ["self", "v"]) F sc_Model_seen fun cdv A outer s H E hr => by
    unfold b_Model_seen
    exact (fs_one (f_ret (pf_callTy cf_list (okL_one ok_list) rfl B.m_list (by decide +kernel) (pfa_cons (pf_ix (pf_fld B.k_Model (pf_var 0)) (pf_var 1) (fun _ _ => rfl)) pfa_nil))))

end

/-- what stands behind the top -/
structure Ad (K : PySem.W.Frag) (mg : Str → Option Value) (w : World) : Prop where
  bt : Bt K mg w
  a_f_is_world : ∃ a fd, mg "is_world" = some (.ref a) ∧ Fun K "is_world" "is_world" st_is_world a fd ∧ Binds K fd ["value", "worlds"] []
  a_f_is_frame : ∃ a fd, mg "is_frame" = some (.ref a) ∧ Fun K "is_frame" "is_frame" st_is_frame a fd ∧ Binds K fd ["frame"] []
  a_f_worlds_of : ∃ a fd, mg "worlds_of" = some (.ref a) ∧ Fun K "worlds_of" "worlds_of" st_worlds_of a fd ∧ Binds K fd ["model"] []
  a_f_evaluated : ∃ a fd, mg "evaluated" = some (.ref a) ∧ Fun K "evaluated" "evaluated" st_evaluated a fd ∧ Binds K fd ["model", "a", "forced"] []
  a_f_truth : ∃ a fd, mg "truth" = some (.ref a) ∧ Fun K "truth" "truth" st_truth a fd ∧ Binds K fd ["model", "a"] []
  a_f_law_pool : ∃ a fd, mg "_law_pool" = some (.ref a) ∧ Fun K "_law_pool" "_law_pool" st_law_pool a fd ∧ Binds K fd ["_law_script"] []
  a_f_law_spread : ∃ a fd, mg "_law_spread" = some (.ref a) ∧ Fun K "_law_spread" "_law_spread" st_law_spread a fd ∧ Binds K fd ["_law_cell"] []
  a_f_law_draw : ∃ a fd, mg "_law_draw" = some (.ref a) ∧ Fun K "_law_draw" "_law_draw" st_law_draw a fd ∧ Binds K fd ["_law_pool_here", "_law_many"] []
  a_f_law_same : ∃ a fd, mg "_law_same" = some (.ref a) ∧ Fun K "_law_same" "_law_same" st_law_same a fd ∧ Binds K fd ["_law_actual", "_law_due"] []
  a_f_law_formula : ∃ a fd, mg "_law_formula" = some (.ref a) ∧ Fun K "_law_formula" "_law_formula" st_law_formula a fd ∧ Binds K fd ["_law_pool_here", "_law_depth", "_law_plain"] []
  a_f_law_closed : ∃ a fd, mg "_law_closed" = some (.ref a) ∧ Fun K "_law_closed" "_law_closed" st_law_closed a fd ∧ Binds K fd ["_law_seen", "_law_logic"] []
  a_f_law_model : ∃ a fd, mg "_law_model" = some (.ref a) ∧ Fun K "_law_model" "_law_model" st_law_model a fd ∧ Binds K fd ["_law_numbers", "_law_logic", "_law_most"] []
  a_f_law_true : ∃ a fd, mg "_law_true" = some (.ref a) ∧ Fun K "_law_true" "_law_true" st_law_true a fd ∧ Binds K fd ["_law_model_here", "_law_a", "_law_w", "_law_forced"] []
  a_f_law_list : ∃ a fd, mg "_law_list" = some (.ref a) ∧ Fun K "_law_list" "_law_list" st_law_list a fd ∧ Binds K fd ["_law_pool_here", "_law_many"] []
  a_f_law_some : ∃ a fd, mg "_law_some" = some (.ref a) ∧ Fun K "_law_some" "_law_some" st_law_some a fd ∧ Binds K fd ["_law_pool_here", "_law_depth", "_law_plain"] []
  a_f_law_where : ∃ a fd, mg "_law_where" = some (.ref a) ∧ Fun K "_law_where" "_law_where" st_law_where a fd ∧ Binds K fd ["_law_model_here", "_law_a", "_law_forced"] []
  a_f_law_drawn_model : ∃ a fd, mg "_law_drawn_model" = some (.ref a) ∧ Fun K "_law_drawn_model" "_law_drawn_model" st_law_drawn_model a fd ∧ Binds K fd ["_law_pool_here", "_law_logic", "_law_most"] []
  a_f_law_wide_model : ∃ a fd, mg "_law_wide_model" = some (.ref a) ∧ Fun K "_law_wide_model" "_law_wide_model" st_law_wide_model a fd ∧ Binds K fd ["_law_pool_here", "_law_most"] []
  a_f_law_program_model : ∃ a fd, mg "_law_program_model" = some (.ref a) ∧ Fun K "_law_program_model" "_law_program_model" st_law_program_model a fd ∧ Binds K fd ["_law_model_here"] []
  a_f_law_names : ∃ a fd, mg "_law_names" = some (.ref a) ∧ Fun K "_law_names" "_law_names" st_law_names a fd ∧ Binds K fd [] []
  a_f_law_any_model : ∃ a fd, mg "_law_any_model" = some (.ref a) ∧ Fun K "_law_any_model" "_law_any_model" st_law_any_model a fd ∧ Binds K fd ["_law_pool_here", "_law_most"] []
  a_f_law_grid : ∃ a fd, mg "_law_grid" = some (.ref a) ∧ Fun K "_law_grid" "_law_grid" st_law_grid a fd ∧ Binds K fd ["_law_first", "_law_second"] []
  a_f_law_framed : ∃ a fd, mg "_law_framed" = some (.ref a) ∧ Fun K "_law_framed" "_law_framed" st_law_framed a fd ∧ Binds K fd ["_law_seen"] []
  a_f_law : ∃ a fd, mg "law" = some (.ref a) ∧ Fun K "law" "law" st_law a fd ∧ Binds K fd ["_law_script"] []
  a_f_Model_init : ∃ A f fd, mg "Model" = some (.ref A) ∧ Mk K A f ∧ Fun K "__init__" "Model.__init__" st_Model_init f fd ∧ Binds K fd ["self", "frame", "values"] []
  a_f_Model_frame : ∃ A f fd, mg "Model" = some (.ref A) ∧ Cls K A ∧ Meth K A "frame" f ∧ Fun K "frame" "Model.frame" st_Model_frame f fd ∧ Binds K fd ["self"] []
  a_f_Model_true_worlds : ∃ A f fd, mg "Model" = some (.ref A) ∧ Cls K A ∧ Meth K A "true_worlds" f ∧ Fun K "true_worlds" "Model.true_worlds" st_Model_true_worlds f fd ∧ Binds K fd ["self"] []
  a_f_Model_seen : ∃ A f fd, mg "Model" = some (.ref A) ∧ Cls K A ∧ Meth K A "seen" f ∧ Fun K "seen" "Model.seen" st_Model_seen f fd ∧ Binds K fd ["self", "v"] []
  a_f_Model : ∃ A, mg "Model" = some (.ref A) ∧ PySem.W.keepIn K (.ref A) = true

theorem all_ok {P : Program} {w : World} {K : PySem.W.Frag} {mg : Str → Option Value} {base : Heap} (T : Ad K mg w) : ∀ n, Cs P w K mg base n (ev n)
  | 0 => {
      c_f_is_world := by
        obtain ⟨a, fd, m, F, b⟩ := T.a_f_is_world
        exact ⟨a, fd, _, m, F.kp, b, rfl, no_ok⟩,
      c_f_is_frame := by
        obtain ⟨a, fd, m, F, b⟩ := T.a_f_is_frame
        exact ⟨a, fd, _, m, F.kp, b, rfl, no_ok⟩,
      c_f_worlds_of := by
        obtain ⟨a, fd, m, F, b⟩ := T.a_f_worlds_of
        exact ⟨a, fd, _, m, F.kp, b, rfl, no_ok⟩,
      c_f_evaluated := by
        obtain ⟨a, fd, m, F, b⟩ := T.a_f_evaluated
        exact ⟨a, fd, _, m, F.kp, b, rfl, no_ok⟩,
      c_f_truth := by
        obtain ⟨a, fd, m, F, b⟩ := T.a_f_truth
        exact ⟨a, fd, _, m, F.kp, b, rfl, no_ok⟩,
      c_f_law_pool := by
        obtain ⟨a, fd, m, F, b⟩ := T.a_f_law_pool
        exact ⟨a, fd, _, m, F.kp, b, rfl, no_ok⟩,
      c_f_law_spread := by
        obtain ⟨a, fd, m, F, b⟩ := T.a_f_law_spread
        exact ⟨a, fd, _, m, F.kp, b, rfl, no_ok⟩,
      c_f_law_draw := by
        obtain ⟨a, fd, m, F, b⟩ := T.a_f_law_draw
        exact ⟨a, fd, _, m, F.kp, b, rfl, no_ok⟩,
      c_f_law_same := by
        obtain ⟨a, fd, m, F, b⟩ := T.a_f_law_same
        exact ⟨a, fd, _, m, F.kp, b, rfl, no_ok⟩,
      c_f_law_formula := by
        obtain ⟨a, fd, m, F, b⟩ := T.a_f_law_formula
        exact ⟨a, fd, _, m, F.kp, b, rfl, no_ok⟩,
      c_f_law_closed := by
        obtain ⟨a, fd, m, F, b⟩ := T.a_f_law_closed
        exact ⟨a, fd, _, m, F.kp, b, rfl, no_ok⟩,
      c_f_law_model := by
        obtain ⟨a, fd, m, F, b⟩ := T.a_f_law_model
        exact ⟨a, fd, _, m, F.kp, b, rfl, no_ok⟩,
      c_f_law_true := by
        obtain ⟨a, fd, m, F, b⟩ := T.a_f_law_true
        exact ⟨a, fd, _, m, F.kp, b, rfl, no_ok⟩,
      c_f_law_list := by
        obtain ⟨a, fd, m, F, b⟩ := T.a_f_law_list
        exact ⟨a, fd, _, m, F.kp, b, rfl, no_ok⟩,
      c_f_law_some := by
        obtain ⟨a, fd, m, F, b⟩ := T.a_f_law_some
        exact ⟨a, fd, _, m, F.kp, b, rfl, no_ok⟩,
      c_f_law_where := by
        obtain ⟨a, fd, m, F, b⟩ := T.a_f_law_where
        exact ⟨a, fd, _, m, F.kp, b, rfl, no_ok⟩,
      c_f_law_drawn_model := by
        obtain ⟨a, fd, m, F, b⟩ := T.a_f_law_drawn_model
        exact ⟨a, fd, _, m, F.kp, b, rfl, no_ok⟩,
      c_f_law_wide_model := by
        obtain ⟨a, fd, m, F, b⟩ := T.a_f_law_wide_model
        exact ⟨a, fd, _, m, F.kp, b, rfl, no_ok⟩,
      c_f_law_program_model := by
        obtain ⟨a, fd, m, F, b⟩ := T.a_f_law_program_model
        exact ⟨a, fd, _, m, F.kp, b, rfl, no_ok⟩,
      c_f_law_names := by
        obtain ⟨a, fd, m, F, b⟩ := T.a_f_law_names
        exact ⟨a, fd, _, m, F.kp, b, rfl, no_ok⟩,
      c_f_law_any_model := by
        obtain ⟨a, fd, m, F, b⟩ := T.a_f_law_any_model
        exact ⟨a, fd, _, m, F.kp, b, rfl, no_ok⟩,
      c_f_law_grid := by
        obtain ⟨a, fd, m, F, b⟩ := T.a_f_law_grid
        exact ⟨a, fd, _, m, F.kp, b, rfl, no_ok⟩,
      c_f_law_framed := by
        obtain ⟨a, fd, m, F, b⟩ := T.a_f_law_framed
        exact ⟨a, fd, _, m, F.kp, b, rfl, no_ok⟩,
      c_f_law := by
        obtain ⟨a, fd, m, F, b⟩ := T.a_f_law
        exact ⟨a, fd, _, m, F.kp, b, rfl, no_ok⟩,
      c_f_Model_init := by
        obtain ⟨A, a, fd, m, mk, F, b⟩ := T.a_f_Model_init
        exact ⟨A, a, fd, _, m, mk, b, no_ok⟩,
      c_f_Model_frame := by
        obtain ⟨A, a, fd, m, cl, mt, F, b⟩ := T.a_f_Model_frame
        exact meth_no m cl mt,
      c_f_Model_true_worlds := by
        obtain ⟨A, a, fd, m, cl, mt, F, b⟩ := T.a_f_Model_true_worlds
        exact meth_no m cl mt,
      c_f_Model_seen := by
        obtain ⟨A, a, fd, m, cl, mt, F, b⟩ := T.a_f_Model_seen
        exact meth_no m cl mt,
      c_f_Model := by
        obtain ⟨A, m, kp⟩ := T.a_f_Model
        exact make_no m kp }
  | n + 1 => by
    have ih := all_ok (P := P) (w := w) (base := base) T n
    exact {
      c_f_is_world := by
        obtain ⟨a, fd, m, F, b⟩ := T.a_f_is_world
        exact ⟨a, fd, _, m, F.kp, b, rfl, (ok_is_world T.bt ih F)⟩,
      c_f_is_frame := by
        obtain ⟨a, fd, m, F, b⟩ := T.a_f_is_frame
        exact ⟨a, fd, _, m, F.kp, b, rfl, (ok_is_frame T.bt ih F)⟩,
      c_f_worlds_of := by
        obtain ⟨a, fd, m, F, b⟩ := T.a_f_worlds_of
        exact ⟨a, fd, _, m, F.kp, b, rfl, (ok_worlds_of T.bt ih F)⟩,
      c_f_evaluated := by
        obtain ⟨a, fd, m, F, b⟩ := T.a_f_evaluated
        exact ⟨a, fd, _, m, F.kp, b, rfl, (ok_evaluated T.bt ih F)⟩,
      c_f_truth := by
        obtain ⟨a, fd, m, F, b⟩ := T.a_f_truth
        exact ⟨a, fd, _, m, F.kp, b, rfl, (ok_truth T.bt ih F)⟩,
      c_f_law_pool := by
        obtain ⟨a, fd, m, F, b⟩ := T.a_f_law_pool
        exact ⟨a, fd, _, m, F.kp, b, rfl, (ok_law_pool T.bt ih F)⟩,
      c_f_law_spread := by
        obtain ⟨a, fd, m, F, b⟩ := T.a_f_law_spread
        exact ⟨a, fd, _, m, F.kp, b, rfl, (ok_law_spread T.bt ih F)⟩,
      c_f_law_draw := by
        obtain ⟨a, fd, m, F, b⟩ := T.a_f_law_draw
        exact ⟨a, fd, _, m, F.kp, b, rfl, (ok_law_draw T.bt ih F)⟩,
      c_f_law_same := by
        obtain ⟨a, fd, m, F, b⟩ := T.a_f_law_same
        exact ⟨a, fd, _, m, F.kp, b, rfl, (ok_law_same T.bt ih F)⟩,
      c_f_law_formula := by
        obtain ⟨a, fd, m, F, b⟩ := T.a_f_law_formula
        exact ⟨a, fd, _, m, F.kp, b, rfl, (ok_law_formula T.bt ih F)⟩,
      c_f_law_closed := by
        obtain ⟨a, fd, m, F, b⟩ := T.a_f_law_closed
        exact ⟨a, fd, _, m, F.kp, b, rfl, (pure_ok (ok_law_closed T.bt ih F))⟩,
      c_f_law_model := by
        obtain ⟨a, fd, m, F, b⟩ := T.a_f_law_model
        exact ⟨a, fd, _, m, F.kp, b, rfl, (pure_ok (ok_law_model T.bt ih F))⟩,
      c_f_law_true := by
        obtain ⟨a, fd, m, F, b⟩ := T.a_f_law_true
        exact ⟨a, fd, _, m, F.kp, b, rfl, (ok_law_true T.bt ih F)⟩,
      c_f_law_list := by
        obtain ⟨a, fd, m, F, b⟩ := T.a_f_law_list
        exact ⟨a, fd, _, m, F.kp, b, rfl, (ok_law_list T.bt ih F)⟩,
      c_f_law_some := by
        obtain ⟨a, fd, m, F, b⟩ := T.a_f_law_some
        exact ⟨a, fd, _, m, F.kp, b, rfl, (ok_law_some T.bt ih F)⟩,
      c_f_law_where := by
        obtain ⟨a, fd, m, F, b⟩ := T.a_f_law_where
        exact ⟨a, fd, _, m, F.kp, b, rfl, (ok_law_where T.bt ih F)⟩,
      c_f_law_drawn_model := by
        obtain ⟨a, fd, m, F, b⟩ := T.a_f_law_drawn_model
        exact ⟨a, fd, _, m, F.kp, b, rfl, (ok_law_drawn_model T.bt ih F)⟩,
      c_f_law_wide_model := by
        obtain ⟨a, fd, m, F, b⟩ := T.a_f_law_wide_model
        exact ⟨a, fd, _, m, F.kp, b, rfl, (ok_law_wide_model T.bt ih F)⟩,
      c_f_law_program_model := by
        obtain ⟨a, fd, m, F, b⟩ := T.a_f_law_program_model
        exact ⟨a, fd, _, m, F.kp, b, rfl, (pure_ok (ok_law_program_model T.bt ih F))⟩,
      c_f_law_names := by
        obtain ⟨a, fd, m, F, b⟩ := T.a_f_law_names
        exact ⟨a, fd, _, m, F.kp, b, rfl, (ok_law_names T.bt ih F)⟩,
      c_f_law_any_model := by
        obtain ⟨a, fd, m, F, b⟩ := T.a_f_law_any_model
        exact ⟨a, fd, _, m, F.kp, b, rfl, (ok_law_any_model T.bt ih F)⟩,
      c_f_law_grid := by
        obtain ⟨a, fd, m, F, b⟩ := T.a_f_law_grid
        exact ⟨a, fd, _, m, F.kp, b, rfl, (pure_ok (ok_law_grid T.bt ih F))⟩,
      c_f_law_framed := by
        obtain ⟨a, fd, m, F, b⟩ := T.a_f_law_framed
        exact ⟨a, fd, _, m, F.kp, b, rfl, (ok_law_framed T.bt ih F)⟩,
      c_f_law := by
        obtain ⟨a, fd, m, F, b⟩ := T.a_f_law
        exact ⟨a, fd, _, m, F.kp, b, rfl, (ok_law T.bt ih F)⟩,
      c_f_Model_init := by
        obtain ⟨A, a, fd, m, mk, F, b⟩ := T.a_f_Model_init
        exact ⟨A, a, fd, _, m, mk, b, ok_Model_init T.bt ih F⟩,
      c_f_Model_frame := by
        obtain ⟨A, a, fd, m, cl, mt, F, b⟩ := T.a_f_Model_frame
        exact (meth_ok m cl mt (ok_Model_frame T.bt ih F) b),
      c_f_Model_true_worlds := by
        obtain ⟨A, a, fd, m, cl, mt, F, b⟩ := T.a_f_Model_true_worlds
        exact (meth_pure (meth_ok m cl mt (ok_Model_true_worlds T.bt ih F) b)),
      c_f_Model_seen := by
        obtain ⟨A, a, fd, m, cl, mt, F, b⟩ := T.a_f_Model_seen
        exact (meth_ok m cl mt (ok_Model_seen T.bt ih F) b),
      c_f_Model := by
        obtain ⟨A, a, fd, ps, m, mk, b, F⟩ := ih.c_f_Model_init
        exact (make_pure (make_ok m mk F b)) }
theorem ad_mk {w : World} {K : PySem.W.Frag} {h : Heap} {mg : Str → Option Value} {fa : Addr} (X : K.In h) (G : h.Ns mainGlobals mg) (hfa : mg "law" = some (.ref fa))
    {C0 : Addr}
    {f0 : Addr} {od0 an0 : Option Addr} {sl0 : Array (Option Value)} {oc0 kV0 dc0 pm0 cd0 ct0 : Value}
    {f1 : Addr} {od1 an1 : Option Addr} {sl1 : Array (Option Value)} {oc1 kV1 dc1 pm1 cd1 ct1 : Value}
    {f2 : Addr} {od2 an2 : Option Addr} {sl2 : Array (Option Value)} {oc2 kV2 dc2 pm2 cd2 ct2 : Value}
    {f3 : Addr} {od3 an3 : Option Addr} {sl3 : Array (Option Value)} {oc3 kV3 dc3 pm3 cd3 ct3 : Value}
    {f4 : Addr} {od4 an4 : Option Addr} {sl4 : Array (Option Value)} {oc4 kV4 dc4 pm4 cd4 ct4 : Value}
    {f5 : Addr} {od5 an5 : Option Addr} {sl5 : Array (Option Value)} {oc5 kV5 dc5 pm5 cd5 ct5 : Value}
    {f6 : Addr} {od6 an6 : Option Addr} {sl6 : Array (Option Value)} {oc6 kV6 dc6 pm6 cd6 ct6 : Value}
    {f7 : Addr} {od7 an7 : Option Addr} {sl7 : Array (Option Value)} {oc7 kV7 dc7 pm7 cd7 ct7 : Value}
    {f8 : Addr} {od8 an8 : Option Addr} {sl8 : Array (Option Value)} {oc8 kV8 dc8 pm8 cd8 ct8 : Value}
    {f9 : Addr} {od9 an9 : Option Addr} {sl9 : Array (Option Value)} {oc9 kV9 dc9 pm9 cd9 ct9 : Value}
    {f10 : Addr} {od10 an10 : Option Addr} {sl10 : Array (Option Value)} {oc10 kV10 dc10 pm10 cd10 ct10 : Value}
    {f11 : Addr} {od11 an11 : Option Addr} {sl11 : Array (Option Value)} {oc11 kV11 dc11 pm11 cd11 ct11 : Value}
    {f12 : Addr} {od12 an12 : Option Addr} {sl12 : Array (Option Value)} {oc12 kV12 dc12 pm12 cd12 ct12 : Value}
    {f13 : Addr} {od13 an13 : Option Addr} {sl13 : Array (Option Value)} {oc13 kV13 dc13 pm13 cd13 ct13 : Value}
    {f14 : Addr} {od14 an14 : Option Addr} {sl14 : Array (Option Value)} {oc14 kV14 dc14 pm14 cd14 ct14 : Value}
    {f15 : Addr} {od15 an15 : Option Addr} {sl15 : Array (Option Value)} {oc15 kV15 dc15 pm15 cd15 ct15 : Value}
    {f16 : Addr} {od16 an16 : Option Addr} {sl16 : Array (Option Value)} {oc16 kV16 dc16 pm16 cd16 ct16 : Value}
    {f17 : Addr} {od17 an17 : Option Addr} {sl17 : Array (Option Value)} {oc17 kV17 dc17 pm17 cd17 ct17 : Value}
    {f18 : Addr} {od18 an18 : Option Addr} {sl18 : Array (Option Value)} {oc18 kV18 dc18 pm18 cd18 ct18 : Value}
    {f19 : Addr} {od19 an19 : Option Addr} {sl19 : Array (Option Value)} {oc19 kV19 dc19 pm19 cd19 ct19 : Value}
    {f20 : Addr} {od20 an20 : Option Addr} {sl20 : Array (Option Value)} {oc20 kV20 dc20 pm20 cd20 ct20 : Value}
    {f21 : Addr} {od21 an21 : Option Addr} {sl21 : Array (Option Value)} {oc21 kV21 dc21 pm21 cd21 ct21 : Value}
    {f22 : Addr} {od22 an22 : Option Addr} {sl22 : Array (Option Value)} {oc22 kV22 dc22 pm22 cd22 ct22 : Value}
    {f23 : Addr} {od23 an23 : Option Addr} {sl23 : Array (Option Value)} {oc23 kV23 dc23 pm23 cd23 ct23 : Value}
    {f24 : Addr} {od24 an24 : Option Addr} {sl24 : Array (Option Value)} {oc24 kV24 dc24 pm24 cd24 ct24 : Value}
    {f25 : Addr} {od25 an25 : Option Addr} {sl25 : Array (Option Value)} {oc25 kV25 dc25 pm25 cd25 ct25 : Value}
    {f26 : Addr} {od26 an26 : Option Addr} {sl26 : Array (Option Value)} {oc26 kV26 dc26 pm26 cd26 ct26 : Value}
    {f27 : Addr} {od27 an27 : Option Addr} {sl27 : Array (Option Value)} {oc27 kV27 dc27 pm27 cd27 ct27 : Value}
    {x0 : Addr}
    (ka0 : PySem.W.nsIn K mainGlobals "Model" = some (some (.ref C0)))
    (kb0 : PySem.W.plainGet K C0 Str.empty = true)
    (kc0 : PySem.W.hasDictIn K C0 = true)
    (kd0 : PySem.W.plainOver K C0 = true)
    (ke0 : PySem.W.findIn K (.ref C0) "__setattr__" = some (some (.builtin "object.__setattr__")))
    (kf0 : PySem.W.makesIn K C0 = true)
    (kg0 : PySem.W.keepIn K (.ref C0) = true)
    (kh0_0 : PySem.W.findIn K (.ref C0) "_frame" = some none)
    (kh0_1 : PySem.W.findIn K (.ref C0) "_seen" = some none)
    (kh0_2 : PySem.W.findIn K (.ref C0) "_values" = some none)
    (a0 : PySem.W.nsIn K mainGlobals "is_world" = some (some (.ref f0)))
    (l0 : K.lookup f0 = some ⟨oc0, od0, .func (PySem.W.fnOf "is_world" "is_world" (defArgs st_is_world) (defBody st_is_world) (defScope st_is_world) .none kV0 dc0 pm0 an0 cd0 ct0), sl0⟩)
    (c0 : PySem.W.codeIn K cd0 "is_world" = true)
    (k0 : PySem.W.keepIn K (.ref f0) = true)
    (a1 : PySem.W.nsIn K mainGlobals "is_frame" = some (some (.ref f1)))
    (l1 : K.lookup f1 = some ⟨oc1, od1, .func (PySem.W.fnOf "is_frame" "is_frame" (defArgs st_is_frame) (defBody st_is_frame) (defScope st_is_frame) .none kV1 dc1 pm1 an1 cd1 ct1), sl1⟩)
    (c1 : PySem.W.codeIn K cd1 "is_frame" = true)
    (k1 : PySem.W.keepIn K (.ref f1) = true)
    (a2 : PySem.W.nsIn K mainGlobals "worlds_of" = some (some (.ref f2)))
    (l2 : K.lookup f2 = some ⟨oc2, od2, .func (PySem.W.fnOf "worlds_of" "worlds_of" (defArgs st_worlds_of) (defBody st_worlds_of) (defScope st_worlds_of) .none kV2 dc2 pm2 an2 cd2 ct2), sl2⟩)
    (c2 : PySem.W.codeIn K cd2 "worlds_of" = true)
    (k2 : PySem.W.keepIn K (.ref f2) = true)
    (a3 : PySem.W.nsIn K mainGlobals "evaluated" = some (some (.ref f3)))
    (l3 : K.lookup f3 = some ⟨oc3, od3, .func (PySem.W.fnOf "evaluated" "evaluated" (defArgs st_evaluated) (defBody st_evaluated) (defScope st_evaluated) .none kV3 dc3 pm3 an3 cd3 ct3), sl3⟩)
    (c3 : PySem.W.codeIn K cd3 "evaluated" = true)
    (k3 : PySem.W.keepIn K (.ref f3) = true)
    (a4 : PySem.W.nsIn K mainGlobals "truth" = some (some (.ref f4)))
    (l4 : K.lookup f4 = some ⟨oc4, od4, .func (PySem.W.fnOf "truth" "truth" (defArgs st_truth) (defBody st_truth) (defScope st_truth) .none kV4 dc4 pm4 an4 cd4 ct4), sl4⟩)
    (c4 : PySem.W.codeIn K cd4 "truth" = true)
    (k4 : PySem.W.keepIn K (.ref f4) = true)
    (a5 : PySem.W.nsIn K mainGlobals "_law_pool" = some (some (.ref f5)))
    (l5 : K.lookup f5 = some ⟨oc5, od5, .func (PySem.W.fnOf "_law_pool" "_law_pool" (defArgs st_law_pool) (defBody st_law_pool) (defScope st_law_pool) .none kV5 dc5 pm5 an5 cd5 ct5), sl5⟩)
    (c5 : PySem.W.codeIn K cd5 "_law_pool" = true)
    (k5 : PySem.W.keepIn K (.ref f5) = true)
    (a6 : PySem.W.nsIn K mainGlobals "_law_spread" = some (some (.ref f6)))
    (l6 : K.lookup f6 = some ⟨oc6, od6, .func (PySem.W.fnOf "_law_spread" "_law_spread" (defArgs st_law_spread) (defBody st_law_spread) (defScope st_law_spread) .none kV6 dc6 pm6 an6 cd6 ct6), sl6⟩)
    (c6 : PySem.W.codeIn K cd6 "_law_spread" = true)
    (k6 : PySem.W.keepIn K (.ref f6) = true)
    (a7 : PySem.W.nsIn K mainGlobals "_law_draw" = some (some (.ref f7)))
    (l7 : K.lookup f7 = some ⟨oc7, od7, .func (PySem.W.fnOf "_law_draw" "_law_draw" (defArgs st_law_draw) (defBody st_law_draw) (defScope st_law_draw) .none kV7 dc7 pm7 an7 cd7 ct7), sl7⟩)
    (c7 : PySem.W.codeIn K cd7 "_law_draw" = true)
    (k7 : PySem.W.keepIn K (.ref f7) = true)
    (a8 : PySem.W.nsIn K mainGlobals "_law_same" = some (some (.ref f8)))
    (l8 : K.lookup f8 = some ⟨oc8, od8, .func (PySem.W.fnOf "_law_same" "_law_same" (defArgs st_law_same) (defBody st_law_same) (defScope st_law_same) .none kV8 dc8 pm8 an8 cd8 ct8), sl8⟩)
    (c8 : PySem.W.codeIn K cd8 "_law_same" = true)
    (k8 : PySem.W.keepIn K (.ref f8) = true)
    (a9 : PySem.W.nsIn K mainGlobals "_law_formula" = some (some (.ref f9)))
    (l9 : K.lookup f9 = some ⟨oc9, od9, .func (PySem.W.fnOf "_law_formula" "_law_formula" (defArgs st_law_formula) (defBody st_law_formula) (defScope st_law_formula) .none kV9 dc9 pm9 an9 cd9 ct9), sl9⟩)
    (c9 : PySem.W.codeIn K cd9 "_law_formula" = true)
    (k9 : PySem.W.keepIn K (.ref f9) = true)
    (a10 : PySem.W.nsIn K mainGlobals "_law_closed" = some (some (.ref f10)))
    (l10 : K.lookup f10 = some ⟨oc10, od10, .func (PySem.W.fnOf "_law_closed" "_law_closed" (defArgs st_law_closed) (defBody st_law_closed) (defScope st_law_closed) .none kV10 dc10 pm10 an10 cd10 ct10), sl10⟩)
    (c10 : PySem.W.codeIn K cd10 "_law_closed" = true)
    (k10 : PySem.W.keepIn K (.ref f10) = true)
    (a11 : PySem.W.nsIn K mainGlobals "_law_model" = some (some (.ref f11)))
    (l11 : K.lookup f11 = some ⟨oc11, od11, .func (PySem.W.fnOf "_law_model" "_law_model" (defArgs st_law_model) (defBody st_law_model) (defScope st_law_model) .none kV11 dc11 pm11 an11 cd11 ct11), sl11⟩)
    (c11 : PySem.W.codeIn K cd11 "_law_model" = true)
    (k11 : PySem.W.keepIn K (.ref f11) = true)
    (a12 : PySem.W.nsIn K mainGlobals "_law_true" = some (some (.ref f12)))
    (l12 : K.lookup f12 = some ⟨oc12, od12, .func (PySem.W.fnOf "_law_true" "_law_true" (defArgs st_law_true) (defBody st_law_true) (defScope st_law_true) .none kV12 dc12 pm12 an12 cd12 ct12), sl12⟩)
    (c12 : PySem.W.codeIn K cd12 "_law_true" = true)
    (k12 : PySem.W.keepIn K (.ref f12) = true)
    (a13 : PySem.W.nsIn K mainGlobals "_law_list" = some (some (.ref f13)))
    (l13 : K.lookup f13 = some ⟨oc13, od13, .func (PySem.W.fnOf "_law_list" "_law_list" (defArgs st_law_list) (defBody st_law_list) (defScope st_law_list) .none kV13 dc13 pm13 an13 cd13 ct13), sl13⟩)
    (c13 : PySem.W.codeIn K cd13 "_law_list" = true)
    (k13 : PySem.W.keepIn K (.ref f13) = true)
    (a14 : PySem.W.nsIn K mainGlobals "_law_some" = some (some (.ref f14)))
    (l14 : K.lookup f14 = some ⟨oc14, od14, .func (PySem.W.fnOf "_law_some" "_law_some" (defArgs st_law_some) (defBody st_law_some) (defScope st_law_some) .none kV14 dc14 pm14 an14 cd14 ct14), sl14⟩)
    (c14 : PySem.W.codeIn K cd14 "_law_some" = true)
    (k14 : PySem.W.keepIn K (.ref f14) = true)
    (a15 : PySem.W.nsIn K mainGlobals "_law_where" = some (some (.ref f15)))
    (l15 : K.lookup f15 = some ⟨oc15, od15, .func (PySem.W.fnOf "_law_where" "_law_where" (defArgs st_law_where) (defBody st_law_where) (defScope st_law_where) .none kV15 dc15 pm15 an15 cd15 ct15), sl15⟩)
    (c15 : PySem.W.codeIn K cd15 "_law_where" = true)
    (k15 : PySem.W.keepIn K (.ref f15) = true)
    (a16 : PySem.W.nsIn K mainGlobals "_law_drawn_model" = some (some (.ref f16)))
    (l16 : K.lookup f16 = some ⟨oc16, od16, .func (PySem.W.fnOf "_law_drawn_model" "_law_drawn_model" (defArgs st_law_drawn_model) (defBody st_law_drawn_model) (defScope st_law_drawn_model) .none kV16 dc16 pm16 an16 cd16 ct16), sl16⟩)
    (c16 : PySem.W.codeIn K cd16 "_law_drawn_model" = true)
    (k16 : PySem.W.keepIn K (.ref f16) = true)
    (a17 : PySem.W.nsIn K mainGlobals "_law_wide_model" = some (some (.ref f17)))
    (l17 : K.lookup f17 = some ⟨oc17, od17, .func (PySem.W.fnOf "_law_wide_model" "_law_wide_model" (defArgs st_law_wide_model) (defBody st_law_wide_model) (defScope st_law_wide_model) .none kV17 dc17 pm17 an17 cd17 ct17), sl17⟩)
    (c17 : PySem.W.codeIn K cd17 "_law_wide_model" = true)
    (k17 : PySem.W.keepIn K (.ref f17) = true)
    (a18 : PySem.W.nsIn K mainGlobals "_law_program_model" = some (some (.ref f18)))
    (l18 : K.lookup f18 = some ⟨oc18, od18, .func (PySem.W.fnOf "_law_program_model" "_law_program_model" (defArgs st_law_program_model) (defBody st_law_program_model) (defScope st_law_program_model) .none kV18 dc18 pm18 an18 cd18 ct18), sl18⟩)
    (c18 : PySem.W.codeIn K cd18 "_law_program_model" = true)
    (k18 : PySem.W.keepIn K (.ref f18) = true)
    (a19 : PySem.W.nsIn K mainGlobals "_law_names" = some (some (.ref f19)))
    (l19 : K.lookup f19 = some ⟨oc19, od19, .func (PySem.W.fnOf "_law_names" "_law_names" (defArgs st_law_names) (defBody st_law_names) (defScope st_law_names) .none kV19 dc19 pm19 an19 cd19 ct19), sl19⟩)
    (c19 : PySem.W.codeIn K cd19 "_law_names" = true)
    (k19 : PySem.W.keepIn K (.ref f19) = true)
    (a20 : PySem.W.nsIn K mainGlobals "_law_any_model" = some (some (.ref f20)))
    (l20 : K.lookup f20 = some ⟨oc20, od20, .func (PySem.W.fnOf "_law_any_model" "_law_any_model" (defArgs st_law_any_model) (defBody st_law_any_model) (defScope st_law_any_model) .none kV20 dc20 pm20 an20 cd20 ct20), sl20⟩)
    (c20 : PySem.W.codeIn K cd20 "_law_any_model" = true)
    (k20 : PySem.W.keepIn K (.ref f20) = true)
    (a21 : PySem.W.nsIn K mainGlobals "_law_grid" = some (some (.ref f21)))
    (l21 : K.lookup f21 = some ⟨oc21, od21, .func (PySem.W.fnOf "_law_grid" "_law_grid" (defArgs st_law_grid) (defBody st_law_grid) (defScope st_law_grid) .none kV21 dc21 pm21 an21 cd21 ct21), sl21⟩)
    (c21 : PySem.W.codeIn K cd21 "_law_grid" = true)
    (k21 : PySem.W.keepIn K (.ref f21) = true)
    (a22 : PySem.W.nsIn K mainGlobals "_law_framed" = some (some (.ref f22)))
    (l22 : K.lookup f22 = some ⟨oc22, od22, .func (PySem.W.fnOf "_law_framed" "_law_framed" (defArgs st_law_framed) (defBody st_law_framed) (defScope st_law_framed) .none kV22 dc22 pm22 an22 cd22 ct22), sl22⟩)
    (c22 : PySem.W.codeIn K cd22 "_law_framed" = true)
    (k22 : PySem.W.keepIn K (.ref f22) = true)
    (a23 : PySem.W.nsIn K mainGlobals "law" = some (some (.ref f23)))
    (l23 : K.lookup f23 = some ⟨oc23, od23, .func (PySem.W.fnOf "law" "law" (defArgs st_law) (defBody st_law) (defScope st_law) .none kV23 dc23 pm23 an23 cd23 ct23), sl23⟩)
    (c23 : PySem.W.codeIn K cd23 "law" = true)
    (k23 : PySem.W.keepIn K (.ref f23) = true)
    (a24 : PySem.W.findIn K (.ref C0) "__init__" = some (some (.ref f24)))
    (i24 : PySem.W.isFn K (.ref f24) = true)
    (l24 : K.lookup f24 = some ⟨oc24, od24, .func (PySem.W.fnOf "__init__" "Model.__init__" (defArgs st_Model_init) (defBody st_Model_init) (defScope st_Model_init) .none kV24 dc24 pm24 an24 cd24 ct24), sl24⟩)
    (c24 : PySem.W.codeIn K cd24 "Model.__init__" = true)
    (k24 : PySem.W.keepIn K (.ref f24) = true)
    (a25 : PySem.W.findIn K (.ref C0) "frame" = some (some (.ref f25)))
    (i25 : PySem.W.isFn K (.ref f25) = true)
    (l25 : K.lookup f25 = some ⟨oc25, od25, .func (PySem.W.fnOf "frame" "Model.frame" (defArgs st_Model_frame) (defBody st_Model_frame) (defScope st_Model_frame) .none kV25 dc25 pm25 an25 cd25 ct25), sl25⟩)
    (c25 : PySem.W.codeIn K cd25 "Model.frame" = true)
    (k25 : PySem.W.keepIn K (.ref f25) = true)
    (a26 : PySem.W.findIn K (.ref C0) "true_worlds" = some (some (.ref f26)))
    (i26 : PySem.W.isFn K (.ref f26) = true)
    (l26 : K.lookup f26 = some ⟨oc26, od26, .func (PySem.W.fnOf "true_worlds" "Model.true_worlds" (defArgs st_Model_true_worlds) (defBody st_Model_true_worlds) (defScope st_Model_true_worlds) .none kV26 dc26 pm26 an26 cd26 ct26), sl26⟩)
    (c26 : PySem.W.codeIn K cd26 "Model.true_worlds" = true)
    (k26 : PySem.W.keepIn K (.ref f26) = true)
    (a27 : PySem.W.findIn K (.ref C0) "seen" = some (some (.ref f27)))
    (i27 : PySem.W.isFn K (.ref f27) = true)
    (l27 : K.lookup f27 = some ⟨oc27, od27, .func (PySem.W.fnOf "seen" "Model.seen" (defArgs st_Model_seen) (defBody st_Model_seen) (defScope st_Model_seen) .none kV27 dc27 pm27 an27 cd27 ct27), sl27⟩)
    (c27 : PySem.W.codeIn K cd27 "Model.seen" = true)
    (k27 : PySem.W.keepIn K (.ref f27) = true)
    (z0 : PySem.W.nsIn K mainGlobals "bool" = some none)
    (z1 : PySem.W.nsIn K mainGlobals "int" = some none)
    (z2 : PySem.W.nsIn K mainGlobals "isinstance" = some none)
    (z3 : PySem.W.nsIn K mainGlobals "len" = some none)
    (z4 : PySem.W.nsIn K mainGlobals "list" = some none)
    (z5 : PySem.W.nsIn K mainGlobals "range" = some none)
    (z6 : PySem.W.nsIn K mainGlobals "set" = some none)
    (z7 : PySem.W.nsIn K mainGlobals "sorted" = some none)
    (z8 : PySem.W.nsIn K mainGlobals "str" = some none)
    (z9 : PySem.W.nsIn K mainGlobals "tuple" = some none)
    (xa0 : PySem.W.nsIn K mainGlobals "InvalidModel" = some (some (.ref x0)))
    (xb0 : PySem.W.excIn K x0 [.type "ValueError", .type "Exception", .type "BaseException", .type "object"] "ValueError.__new__" = true)
    (xc0 : PySem.W.keepIn K (.ref x0) = true)
    (xd0 : PySem.W.subIn K (.ref x0) (.type "BaseException") = some true)
    (xe0 : PySem.W.typeIn K (.ref x0) = some (.type "type"))
    (xf0 : PySem.W.findIn K (.ref x0) "__getattribute__" = some (some (.builtin "BaseException.__getattribute__")))
    (xg0 : PySem.W.findIn K (.ref x0) "__getattr__" = some none)
    (xh0 : PySem.W.hasDictIn K x0 = true)
    (xi0 : PySem.W.findIn K (.ref x0) "__class__" = some (some (.builtin "object.__class__")))
    (xj0 : PySem.W.specialIn K (.builtin "object.__class__") "__get__" = some (some (.builtin "getset_descriptor.__get__")))
    (xk0 : PySem.W.takesIn K (.builtin "object.__class__") = some true)
    (xl0 : PySem.W.mroIn K x0 (.type "object") = some true) :
    ∃ fd : FuncData, (∀ (s : Shared) (u : Value), BindsTo s fd ⟨[u], []⟩ [("_law_script", u)]) ∧ Fun K "law" "law" st_law fa fd ∧ Ad K mg w := by
  have e := hfa.symm.trans (PySem.W.mg_of X G a23)
  cases e
  have F0 := fun_mk (st := st_is_world) l0 c0 k0
  have F1 := fun_mk (st := st_is_frame) l1 c1 k1
  have F2 := fun_mk (st := st_worlds_of) l2 c2 k2
  have F3 := fun_mk (st := st_evaluated) l3 c3 k3
  have F4 := fun_mk (st := st_truth) l4 c4 k4
  have F5 := fun_mk (st := st_law_pool) l5 c5 k5
  have F6 := fun_mk (st := st_law_spread) l6 c6 k6
  have F7 := fun_mk (st := st_law_draw) l7 c7 k7
  have F8 := fun_mk (st := st_law_same) l8 c8 k8
  have F9 := fun_mk (st := st_law_formula) l9 c9 k9
  have F10 := fun_mk (st := st_law_closed) l10 c10 k10
  have F11 := fun_mk (st := st_law_model) l11 c11 k11
  have F12 := fun_mk (st := st_law_true) l12 c12 k12
  have F13 := fun_mk (st := st_law_list) l13 c13 k13
  have F14 := fun_mk (st := st_law_some) l14 c14 k14
  have F15 := fun_mk (st := st_law_where) l15 c15 k15
  have F16 := fun_mk (st := st_law_drawn_model) l16 c16 k16
  have F17 := fun_mk (st := st_law_wide_model) l17 c17 k17
  have F18 := fun_mk (st := st_law_program_model) l18 c18 k18
  have F19 := fun_mk (st := st_law_names) l19 c19 k19
  have F20 := fun_mk (st := st_law_any_model) l20 c20 k20
  have F21 := fun_mk (st := st_law_grid) l21 c21 k21
  have F22 := fun_mk (st := st_law_framed) l22 c22 k22
  have F23 := fun_mk (st := st_law) l23 c23 k23
  have F24 := fun_mk (st := st_Model_init) l24 c24 k24
  have F25 := fun_mk (st := st_Model_frame) l25 c25 k25
  have F26 := fun_mk (st := st_Model_true_worlds) l26 c26 k26
  have F27 := fun_mk (st := st_Model_seen) l27 c27 k27
  have L0 : Cls K C0 := ⟨kb0, kc0, kd0, ke0⟩
  refine ⟨_, fun s v => .of_eq rfl, F23, {
    bt := { m_bool := PySem.W.mg_none_of X G z0, m_int := PySem.W.mg_none_of X G z1, m_isinstance := PySem.W.mg_none_of X G z2, m_len := PySem.W.mg_none_of X G z3, m_list := PySem.W.mg_none_of X G z4, m_range := PySem.W.mg_none_of X G z5, m_set := PySem.W.mg_none_of X G z6, m_sorted := PySem.W.mg_none_of X G z7, m_str := PySem.W.mg_none_of X G z8, m_tuple := PySem.W.mg_none_of X G z9, xt := ⟨(by
      intro c hc
      simp only [csL, List.mem_cons, List.not_mem_nil, or_false] at hc
      rcases hc with rfl
      · exact ⟨⟨_, PySem.W.mg_of X G xa0, xb0, xc0, xd0, xe0⟩, fun A hA => (by
          cases hA.symm.trans (PySem.W.mg_of X G xa0)
          exact ⟨xf0, xg0, xd0, xh0, xi0, xj0, xk0, xl0⟩)⟩
      ), (fun c hc => (by cases hc)), (fun c hc u hu => (by cases hu))⟩, k_Model := ⟨C0, PySem.W.mg_of X G ka0, L0, (by
      intro f hf
      simp only [List.mem_cons, List.not_mem_nil, or_false] at hf
      rcases hf with rfl | rfl | rfl
      · exact kh0_0
      · exact kh0_1
      · exact kh0_2
      )⟩ },
    a_f_is_world := ⟨_, _, PySem.W.mg_of X G a0, F0, F0.binds (ps := ["value", "worlds"]) (fun _ _ _ _ _ _ us hl => match us, hl with | [_, _], _ => rfl)⟩,
    a_f_is_frame := ⟨_, _, PySem.W.mg_of X G a1, F1, F1.binds (ps := ["frame"]) (fun _ _ _ _ _ _ us hl => match us, hl with | [_], _ => rfl)⟩,
    a_f_worlds_of := ⟨_, _, PySem.W.mg_of X G a2, F2, F2.binds (ps := ["model"]) (fun _ _ _ _ _ _ us hl => match us, hl with | [_], _ => rfl)⟩,
    a_f_evaluated := ⟨_, _, PySem.W.mg_of X G a3, F3, F3.binds (ps := ["model", "a", "forced"]) (fun _ _ _ _ _ _ us hl => match us, hl with | [_, _, _], _ => rfl)⟩,
    a_f_truth := ⟨_, _, PySem.W.mg_of X G a4, F4, F4.binds (ps := ["model", "a"]) (fun _ _ _ _ _ _ us hl => match us, hl with | [_, _], _ => rfl)⟩,
    a_f_law_pool := ⟨_, _, PySem.W.mg_of X G a5, F5, F5.binds (ps := ["_law_script"]) (fun _ _ _ _ _ _ us hl => match us, hl with | [_], _ => rfl)⟩,
    a_f_law_spread := ⟨_, _, PySem.W.mg_of X G a6, F6, F6.binds (ps := ["_law_cell"]) (fun _ _ _ _ _ _ us hl => match us, hl with | [_], _ => rfl)⟩,
    a_f_law_draw := ⟨_, _, PySem.W.mg_of X G a7, F7, F7.binds (ps := ["_law_pool_here", "_law_many"]) (fun _ _ _ _ _ _ us hl => match us, hl with | [_, _], _ => rfl)⟩,
    a_f_law_same := ⟨_, _, PySem.W.mg_of X G a8, F8, F8.binds (ps := ["_law_actual", "_law_due"]) (fun _ _ _ _ _ _ us hl => match us, hl with | [_, _], _ => rfl)⟩,
    a_f_law_formula := ⟨_, _, PySem.W.mg_of X G a9, F9, F9.binds (ps := ["_law_pool_here", "_law_depth", "_law_plain"]) (fun _ _ _ _ _ _ us hl => match us, hl with | [_, _, _], _ => rfl)⟩,
    a_f_law_closed := ⟨_, _, PySem.W.mg_of X G a10, F10, F10.binds (ps := ["_law_seen", "_law_logic"]) (fun _ _ _ _ _ _ us hl => match us, hl with | [_, _], _ => rfl)⟩,
    a_f_law_model := ⟨_, _, PySem.W.mg_of X G a11, F11, F11.binds (ps := ["_law_numbers", "_law_logic", "_law_most"]) (fun _ _ _ _ _ _ us hl => match us, hl with | [_, _, _], _ => rfl)⟩,
    a_f_law_true := ⟨_, _, PySem.W.mg_of X G a12, F12, F12.binds (ps := ["_law_model_here", "_law_a", "_law_w", "_law_forced"]) (fun _ _ _ _ _ _ us hl => match us, hl with | [_, _, _, _], _ => rfl)⟩,
    a_f_law_list := ⟨_, _, PySem.W.mg_of X G a13, F13, F13.binds (ps := ["_law_pool_here", "_law_many"]) (fun _ _ _ _ _ _ us hl => match us, hl with | [_, _], _ => rfl)⟩,
    a_f_law_some := ⟨_, _, PySem.W.mg_of X G a14, F14, F14.binds (ps := ["_law_pool_here", "_law_depth", "_law_plain"]) (fun _ _ _ _ _ _ us hl => match us, hl with | [_, _, _], _ => rfl)⟩,
    a_f_law_where := ⟨_, _, PySem.W.mg_of X G a15, F15, F15.binds (ps := ["_law_model_here", "_law_a", "_law_forced"]) (fun _ _ _ _ _ _ us hl => match us, hl with | [_, _, _], _ => rfl)⟩,
    a_f_law_drawn_model := ⟨_, _, PySem.W.mg_of X G a16, F16, F16.binds (ps := ["_law_pool_here", "_law_logic", "_law_most"]) (fun _ _ _ _ _ _ us hl => match us, hl with | [_, _, _], _ => rfl)⟩,
    a_f_law_wide_model := ⟨_, _, PySem.W.mg_of X G a17, F17, F17.binds (ps := ["_law_pool_here", "_law_most"]) (fun _ _ _ _ _ _ us hl => match us, hl with | [_, _], _ => rfl)⟩,
    a_f_law_program_model := ⟨_, _, PySem.W.mg_of X G a18, F18, F18.binds (ps := ["_law_model_here"]) (fun _ _ _ _ _ _ us hl => match us, hl with | [_], _ => rfl)⟩,
    a_f_law_names := ⟨_, _, PySem.W.mg_of X G a19, F19, F19.binds (ps := []) (fun _ _ _ _ _ _ us hl => match us, hl with | [], _ => rfl)⟩,
    a_f_law_any_model := ⟨_, _, PySem.W.mg_of X G a20, F20, F20.binds (ps := ["_law_pool_here", "_law_most"]) (fun _ _ _ _ _ _ us hl => match us, hl with | [_, _], _ => rfl)⟩,
    a_f_law_grid := ⟨_, _, PySem.W.mg_of X G a21, F21, F21.binds (ps := ["_law_first", "_law_second"]) (fun _ _ _ _ _ _ us hl => match us, hl with | [_, _], _ => rfl)⟩,
    a_f_law_framed := ⟨_, _, PySem.W.mg_of X G a22, F22, F22.binds (ps := ["_law_seen"]) (fun _ _ _ _ _ _ us hl => match us, hl with | [_], _ => rfl)⟩,
    a_f_law := ⟨_, _, PySem.W.mg_of X G a23, F23, F23.binds (ps := ["_law_script"]) (fun _ _ _ _ _ _ us hl => match us, hl with | [_], _ => rfl)⟩,
    a_f_Model_init := ⟨C0, _, _, PySem.W.mg_of X G ka0, ⟨kf0, a24, i24, kg0⟩, F24, F24.binds (ps := ["self", "frame", "values"]) (fun _ _ _ _ _ _ us hl => match us, hl with | [_, _, _], _ => rfl)⟩,
    a_f_Model_frame := ⟨C0, _, _, PySem.W.mg_of X G ka0, L0, ⟨a25, i25, k25⟩, F25, F25.binds (ps := ["self"]) (fun _ _ _ _ _ _ us hl => match us, hl with | [_], _ => rfl)⟩,
    a_f_Model_true_worlds := ⟨C0, _, _, PySem.W.mg_of X G ka0, L0, ⟨a26, i26, k26⟩, F26, F26.binds (ps := ["self"]) (fun _ _ _ _ _ _ us hl => match us, hl with | [_], _ => rfl)⟩,
    a_f_Model_seen := ⟨C0, _, _, PySem.W.mg_of X G ka0, L0, ⟨a27, i27, k27⟩, F27, F27.binds (ps := ["self", "v"]) (fun _ _ _ _ _ _ us hl => match us, hl with | [_, _], _ => rfl)⟩,
    a_f_Model := ⟨C0, PySem.W.mg_of X G ka0, kg0⟩ }⟩

theorem fin_ok {P : Program} {w : World} {K : PySem.W.Frag} {mg : Str → Option Value} {fa : Addr} (h : ∃ fd : FuncData, (∀ (s : Shared) (u : Value), BindsTo s fd ⟨[u], []⟩ [("_law_script", u)]) ∧ Fun K "law" "law" st_law fa fd ∧ Ad K mg w) :
    ∃ fd : FuncData, (∀ (s : Shared) (u : Value), BindsTo s fd ⟨[u], []⟩ [("_law_script", u)]) ∧ ∀ base : Heap, K.In base → base.Ns mainGlobals mg → FnOk P w K mg base (L2.CX P w) 60 fa fd ["_law_script"] (spF ⟨K, mg, w⟩ (ev 60 .f_law) 1) := by
  obtain ⟨fd, hb, F, T⟩ := h
  exact ⟨fd, hb, fun base _ _ => ok_law T.bt (all_ok T 59) F⟩
end K
namespace K
open PySem PySem.Spec L2 Fx
theorem e_world {n : Nat} (h : 0 < n) : WorldSpec (ev n .f_is_world) := by
  obtain ⟨m, rfl⟩ : ∃ m, n = m + 1 := ⟨n - 1, by omega⟩
  exact world_ok
theorem e_frame {n : Nat} (h : 1 < n) : FrameSpec (ev n .f_is_frame) := by
  obtain ⟨m, rfl⟩ : ∃ m, n = m + 1 := ⟨n - 1, by omega⟩
  exact frame_ok (e_world (by omega))
theorem e_make {n : Nat} (h : 3 < n) : MakeSpec (ev n .f_Model) := by
  obtain ⟨m, rfl⟩ : ∃ m, n = m + 2 := ⟨n - 2, by omega⟩
  exact make_model (g := ev (m + 1) .f_Model_init) fun n l v ro h0 hn hl hv => init_ok (e_frame (n := m) (by omega)) (e_world (by omega)) h0 hn hl hv ro
theorem e_new {A : Mo} (hA : A.Good) {n : Nat} (h : 3 < n) (ro w : List D) : ev n .f_Model [A.frD, vD A.v] ro w = .ok A.progD w := by
  have z := e_make h A.n A.pairs A.v ro w hA.pos (by have := hA.few; omega) (Mo.pairs_ok hA.few) (Mo.vals_ok hA)
  rw [Mo.prog_eq hA] at z
  exact z
theorem e_fr {A : Mo} {n : Nat} (h : 0 < n) : FrSpec A (ev n .f_Model_frame) := by
  obtain ⟨m, rfl⟩ : ∃ m, n = m + 1 := ⟨n - 1, by omega⟩
  exact fr_ok
theorem e_tw {A : Mo} (hA : A.Good) {n : Nat} (h : 0 < n) : TwSpec A (ev n .f_Model_true_worlds) := by
  obtain ⟨m, rfl⟩ : ∃ m, n = m + 1 := ⟨n - 1, by omega⟩
  exact tw_ok hA
theorem e_seen {A : Mo} {n : Nat} (h : 0 < n) : SeenSpec A (ev n .f_Model_seen) := by
  obtain ⟨m, rfl⟩ : ∃ m, n = m + 1 := ⟨n - 1, by omega⟩
  exact seen_ok
theorem e_wo {A : Mo} (hA : A.Good) {n : Nat} (h : 1 < n) : WoSpec A (ev n .f_worlds_of) := by
  obtain ⟨m, rfl⟩ : ∃ m, n = m + 1 := ⟨n - 1, by omega⟩
  exact wo_ok hA.few (e_fr (by omega))
theorem e_eval {A : Mo} (hA : A.Good) : ∀ {k n : Nat}, k + 2 < n → EvalSpec A k (ev n .f_evaluated)
  | 0, n, h => fun φ F ro w hk => by have := φ.ht_pos; omega
  | k + 1, 0, h => by omega
  | k + 1, n + 1, h => eval_ok hA (e_tw hA (by omega)) (e_eval hA (by omega)) (e_wo hA (by omega)) (e_seen (by omega))
theorem e_true {A : Mo} (hA : A.n < 8) : ∀ {k n : Nat}, k < n → TrueSpec A k (ev n .f_law_true)
  | 0, n, h => fun φ F i ro w hk => by have := φ.ht_pos; omega
  | k + 1, 0, h => by omega
  | k + 1, n + 1, h => true_ok hA (e_true hA (by omega))
theorem e_where {A : Mo} (hA : A.n < 8) {k n : Nat} (h : k + 1 < n) : WhereSpec A k (ev n .f_law_where) := by
  obtain ⟨m, rfl⟩ : ∃ m, n = m + 1 := ⟨n - 1, by omega⟩
  exact where_ok hA (e_true hA (by omega))
theorem e_grid {n : Nat} (h : 0 < n) : GridSpec (ev n .f_law_grid) := by
  obtain ⟨m, rfl⟩ : ∃ m, n = m + 1 := ⟨n - 1, by omega⟩
  exact grid_ok
theorem e_framed {A : Mo} (hA : A.n < 8) {n : Nat} (h : 1 < n) : FramedSpec A (ev n .f_law_framed) := by
  obtain ⟨m, rfl⟩ : ∃ m, n = m + 1 := ⟨n - 1, by omega⟩
  exact framed_ok hA (e_grid (by omega))
theorem e_prog {A : Mo} (hA : A.Good) {n : Nat} (h : 2 < n) : ProgSpec A (ev n .f_law_program_model) := by
  obtain ⟨m, rfl⟩ : ∃ m, n = m + 1 := ⟨n - 1, by omega⟩
  exact prog_ok hA.nd (by have := hA.short; omega) (e_framed hA.few (by omega))
theorem e_closed {k n : Nat} (h : 0 < n) (hk : k ≤ 1000) : ClosedSpec k (ev n .f_law_closed) := by
  obtain ⟨m, rfl⟩ : ∃ m, n = m + 1 := ⟨n - 1, by omega⟩
  exact closed_ok hk
theorem e_model {n : Nat} (h : 1 < n) : ModelSpec (ev n .f_law_model) := by
  obtain ⟨m, rfl⟩ : ∃ m, n = m + 1 := ⟨n - 1, by omega⟩
  exact model_ok fun k hk => e_closed (by omega) hk
theorem e_drawn {n : Nat} (h : 3 < n) : DrawnSpec (ev n .f_law_drawn_model) := by
  obtain ⟨m, rfl⟩ : ∃ m, n = m + 1 := ⟨n - 1, by omega⟩
  exact drawn_ok (e_model (by omega)) (e_list (by omega))
theorem e_wide {n : Nat} (h : 2 < n) : WideSpec (ev n .f_law_wide_model) := by
  obtain ⟨m, rfl⟩ : ∃ m, n = m + 1 := ⟨n - 1, by omega⟩
  exact wide_ok (e_draw (by omega))
theorem e_names {n : Nat} (h : 0 < n) : NamesSpec (ev n .f_law_names) := by
  obtain ⟨m, rfl⟩ : ∃ m, n = m + 1 := ⟨n - 1, by omega⟩
  exact names_ok
theorem e_any {n : Nat} (h : 4 < n) : AnySpec (ev n .f_law_any_model) := by
  obtain ⟨m, rfl⟩ : ∃ m, n = m + 1 := ⟨n - 1, by omega⟩
  exact any_ok (e_draw (by omega)) (e_wide (by omega)) (e_drawn (by omega)) (e_names (by omega))
theorem pool_under {k : Nat} {P : D} (h : PoolOk P) : D.under k P = true := by
  obtain ⟨cs, i, x, a, s, rfl⟩ := h
  have : D.under k (.lst (cs.map .int)) = true := unders_iff.mpr fun d hd => by obtain ⟨i, _, rfl⟩ := List.mem_map.mp hd; rfl
  simp [D.under, D.unders] at this ⊢
  exact this
theorem ints_under {k : Nat} {ns : List Int} : D.under k (.lst (ns.map .int)) = true := unders_iff.mpr fun d hd => by obtain ⟨i, _, rfl⟩ := List.mem_map.mp hd; rfl
theorem law_under {k : Nat} {A : Mo} : D.under k A.lawD = true := unders_iff.mpr fun d hd => by
  simp only [List.mem_cons, List.not_mem_nil, or_false] at hd
  rcases hd with rfl | rfl
  · exact unders_iff.mpr fun d hd => by
      obtain ⟨i, _, rfl⟩ := List.mem_map.mp hd
      exact unders_iff.mpr fun d hd => by obtain ⟨i, _, rfl⟩ := List.mem_map.mp hd; rfl
  · exact under_v
theorem ns_smy {l : List Nat} (h : l.length ≤ 1000) : (nsD l).smy = true ∧ (nsD l).dp ≤ 1 := by
  have h1 : D.smys (l.map nD) = true := by
    clear h
    induction l with
    | nil => rfl
    | cons a l ih => simp [D.smys, D.smy, ih]
  have h2 : D.dps (l.map nD) ≤ 0 := dps_iff.mpr fun d hd => by obtain ⟨i, _, rfl⟩ := List.mem_map.mp hd; exact Nat.le_refl _
  refine ⟨?_, by show D.dps _ + 1 ≤ 1; omega⟩
  show (decide ((l.map nD).length ≤ 4611686018427387903) && D.smys (l.map nD)) = true
  rw [h1]
  simp
  omega
/-- x = any_model(pool, most), told -/
theorem tell_any {n i : Nat} {most : Nat} {env : Fx.Env} {P : D} {p : Nat} (hn : 4 < n) (hp : env[p]? = some (some (.ref 0))) (hP : PoolOk P) (h0 : 0 < most) (h7 : most ≤ 7) (ht : ∀ j, j ≠ i → ∀ o, env[j]? = some o → o = some (.ref 0) ∨ ∀ φ : Nat → Option D, o.bind (D.tell φ) = o) (hl : i < env.length) :
    ∃ (A : Mo) (P' : D), Drawn most A ∧ PoolOk P' ∧ sTell (sSet i (cCall (fun ds => if ds.length = 2 then ev n .f_law_any_model ds else M.no) (cArgs [cVar p, cK (.int most)]))) env [] [P] = .go .nx (env.set i (some A.lawD)) [P'] := by
  obtain ⟨A, P', g, D', hA, hP', h1, h2⟩ := e_any hn P [] most hP h0 h7
  refine ⟨A, P', hA, hP', ?_⟩
  have r1 : sSet i (cCall (fun ds => if ds.length = 2 then ev n .f_law_any_model ds else M.no) (cArgs [cVar p, cK (.int most)])) env [] [P] = .go .nx (env.set i (some D')) [P', g] := by
    rw [x_set]
    simp only [x_call, x_args, x_args0, x_var, hp, x_k, ofO_ss, an_ok, List.length_cons, List.length_nil, Nat.zero_add, Nat.reduceAdd, if_true, h1, st_ok, List.nil_append]
  have hc : cutW ([] : List D).length [P].length [P', g] = some [P'] := by
    unfold cutW
    have : D.under (0 + 1) P' = true := pool_under hP'
    simp [this]
  rw [x_tell r1 hc]
  congr 1
  apply List.ext_getElem?
  intro j
  unfold tellE
  rw [List.getElem?_map]
  by_cases c : j = i
  · subst c
    rw [List.getElem?_set_self hl, List.getElem?_set_self hl]
    show some ((some D').bind (D.tell (told (0 + 1) [g] 4))) = _
    have : D.tell (told (0 + 1) [g] 4) D' = some A.lawD := h2
    simp only [Option.bind_some, this]
  · rw [List.getElem?_set_ne (Ne.symm c), List.getElem?_set_ne (Ne.symm c)]
    cases q : env[j]? with
    | none => rfl
    | some o =>
      rcases ht j c o q with h | h
      · subst h
        rfl
      · rw [Option.map_some, h]
theorem e_truth {A : Mo} (hA : A.Good) {k n : Nat} (h : k + 3 < n) (φ : Fm) (ro w : List D) (hk : φ.ht ≤ k) (ho : φ.Over SOk) : ev n .f_truth [A.progD, φ.toD] ro w = .ok (nsD ((List.range A.n).filter (A.sem false φ))) w := by
  obtain ⟨m, rfl⟩ : ∃ m, n = m + 1 := ⟨n - 1, by omega⟩
  have r := fun w => e_eval hA (k := k) (n := m) (by omega) φ false ro w hk ho
  rw [q_truth]
  simp only [x_def, b_truth, List.length_cons, List.length_nil, Nat.zero_add, Nat.reduceAdd, if_true, List.map_cons, List.map_nil, Nat.reduceSub, List.replicate, List.append_nil, x_ret, x_call, x_args, x_args0, x_var, x_k, List.getElem?_cons_zero, List.getElem?_cons_succ, ofO_ss, an_ok, r, st_ok, fin_rt]
def sBody (n : Nat) : SF := (sSeq (sSet 5 (cCall (fun ds => if ds.length = 3 then ev n .f_law_some ds else M.no) (cArgs [cVar 1, cBin gAdd (cK (.int 1)) (cCall (fun ds => if ds.length = 2 then ev n .f_law_draw ds else M.no) (cArgs [cVar 1, cK (.int 5)])), cK (.bl false)])))
  (sIf (cNotT (cTru (cCall (fun ds => if ds.length = 2 then ev n .f_law_same ds else M.no) (cArgs [cCall (fun ds => if ds.length = 2 then ev n .f_truth ds else M.no) (cArgs [cVar 3, cVar 5]), cCall (fun ds => if ds.length = 3 then ev n .f_law_where ds else M.no) (cArgs [cVar 2, cVar 5, cK (.bl false)])])))) (sRet (cK (.bl false))) (sNil)))
def lE (S : D) (A : Mo) (e4 e5 : Option D) : Fx.Env := [some S, some (.ref 0), some A.lawD, some A.progD, e4, e5]
theorem body_ok {A : Mo} (hA : A.Good) {n : Nat} (hn : 20 < n) {S : D} {e4 e5 : Option D} {P : D} {r : List D} (hP : PoolOk P) : ∃ (e5' : Option D) (P' : D) (r' : List D), PoolOk P' ∧ sBody n (lE S A e4 e5) [] (P :: r) = .go .nx (lE S A e4 e5') (P' :: r') := by
  obtain ⟨v, P1, g1, a1, b1, hP1⟩ := e_draw (n := n) (by omega) P r 5 hP (by decide) (by decide)
  obtain ⟨m, rfl⟩ : ∃ m : Nat, v = m := ⟨v.toNat, by omega⟩
  obtain ⟨φ, P2, g, g2, hP2, ht, ho, _⟩ := e_some (d := 1 + m) (n := n) (by omega) (by omega) P1 r false hP1
  have ho' : φ.Over SOk := Fm.Over.mono (fun x h => pqr_ok x h) φ ho
  have hd : (1 : Int) + m = ((1 + m : Nat) : Int) := by simp
  have t := fun w => e_truth hA (k := 6) (n := n) (by omega) φ [] w (by omega) ho'
  have wh := fun w => e_where (A := A) hA.few (k := 6) (n := n) (by omega) φ false [] w (by omega) ho'
  have hl : ((List.range A.n).filter (A.sem false φ)).length ≤ 1000 := by
    have := List.length_filter_le (A.sem false φ) (List.range A.n)
    rw [List.length_range] at this
    have := hA.few
    omega
  have sm := fun w => e_same (d := 1) (n := n) (by omega) (nsD ((List.range A.n).filter (A.sem false φ))) [] w (ns_smy hl).1 (ns_smy hl).2
  refine ⟨some φ.toD, P2, r ++ [g], hP2, ?_⟩
  unfold sBody lE
  rw [x_seq, x_set]
  simp only [x_call, x_args, x_args0, x_bin, x_var, x_k, List.getElem?_cons_zero, List.getElem?_cons_succ, ofO_ss, an_ok, List.length_cons, List.length_nil, Nat.zero_add, Nat.reduceAdd, if_true, g1, see_int, add_int, hd, g2, st_ok, oan_nx, List.set_cons_succ, List.set_cons_zero]
  simp only [x_ifS, x_notT, x_tru, x_call, x_args, x_args0, x_var, x_k, List.getElem?_cons_zero, List.getElem?_cons_succ, ofO_ss, an_ok, List.length_cons, List.length_nil, Nat.zero_add, Nat.reduceAdd, if_true, t, wh, sm, see_bl, truth_bl, Bool.not_true, st_ok, Bool.false_eq_true, if_false, x_nil]
theorem law_true (ns : List Int) (hns : ns.length ≤ 63) : ∃ w', ev 60 .f_law [.lst (ns.map .int)] [] [] = .ok (.bl true) w' := by
  obtain ⟨P, hP, g0⟩ := e_pool (n := 59) (by omega) ns
  obtain ⟨A, P1, hA, hP1, g1⟩ := tell_any (n := 59) (i := 2) (most := 5) (p := 1) (env := [some (.lst (ns.map .int)), some (.ref 0), none, none, none, none]) (P := P) (by omega) rfl hP (by decide) (by decide) (fun j hj o ho => by
    match j, hj, ho with
    | 0, _, ho => cases ho; exact .inr fun φ => tell_self _ ints_under
    | 1, _, ho => cases ho; exact .inl rfl
    | 3, _, ho => cases ho; exact .inr fun φ => rfl
    | 4, _, ho => cases ho; exact .inr fun φ => rfl
    | 5, _, ho => cases ho; exact .inr fun φ => rfl
    | j + 6, _, ho => cases ho) (by simp)
  have gA := hA.good
  have g2 := fun w => e_prog gA (n := 59) (by omega) [] w
  have g3 := fun w => e_new gA (n := 59) (by omega) [] w
  obtain ⟨env', w', g4, e4, e5, P', r', rfl, rfl, hP'⟩ := for_inv (ro := []) (k := 4) (s := sBody 59) (I := fun env w => ∃ e4 e5 P r, env = lE (.lst (ns.map .int)) A e4 e5 ∧ w = P :: r ∧ PoolOk P) (List.range 3) (lE (.lst (ns.map .int)) A none none) [P1] ⟨none, none, P1, [], rfl, rfl, hP1⟩ (by
    rintro i hi env w ⟨e4, e5, P, r, rfl, rfl, hP⟩
    obtain ⟨e5', P', r', h1, h2⟩ := body_ok gA (n := 59) (by omega) (S := .lst (ns.map .int)) (e4 := some (nD i)) (e5 := e5) (r := r) hP
    exact ⟨_, _, h2, _, _, _, _, rfl, rfl, h1⟩)
  refine ⟨P' :: r', ?_⟩
  rw [q_law, x_def]
  simp only [List.length_cons, List.length_nil, Nat.zero_add, Nat.reduceAdd, if_true, List.map_cons, List.map_nil, Nat.reduceSub, List.replicate, List.cons_append, List.nil_append]
  unfold b_law
  rw [x_seq, x_set]
  simp only [x_call, x_args, x_args0, x_var, List.getElem?_cons_zero, ofO_ss, an_ok, List.length_cons, List.length_nil, Nat.zero_add, Nat.reduceAdd, if_true, g0, st_ok, oan_nx, List.set_cons_succ, List.set_cons_zero]
  rw [x_seq]
  have g1' : sTell (sSet 2 (cCall (fun ds => if ds.length = 2 then ev 59 .f_law_any_model ds else M.no) (cArgs [cVar 1, cK (.int 5)]))) [some (.lst (ns.map .int)), some (.ref 0), none, none, none, none] [] [P] = _ := g1
  rw [g1', oan_nx, x_seq, x_set]
  simp only [List.set_cons_succ, List.set_cons_zero, x_call, x_args, x_args0, x_var, List.getElem?_cons_zero, List.getElem?_cons_succ, ofO_ss, an_ok, List.length_cons, List.length_nil, Nat.zero_add, Nat.reduceAdd, if_true, g2, st_ok, oan_nx]
  rw [x_seq, x_set]
  simp only [x_call, x_args, x_args0, x_bin, x_k, x_var, List.getElem?_cons_zero, List.getElem?_cons_succ, ofO_ss, an_ok, see_tup, see_int, Fx.ix_tup, atI_lit, od_s, List.length_cons, List.length_nil, Nat.zero_add, Nat.reduceAdd, if_true, g3, st_ok, oan_nx, List.set_cons_succ, List.set_cons_zero]
  rw [x_seq, x_for]
  simp only [x_rng1, x_args, x_args0, x_k, an_ok]
  rw [show gRng1 [.int 3] [] [P1] = .ok ((List.range 3).map nD) [P1] from (rng1_nat (n := 3) (by decide)).trans (by rw [rngD_nat]), st_ok]
  have g4' : forL (.nm 4) (sSeq (sSet 5 (cCall (fun ds => if ds.length = 3 then ev 59 .f_law_some ds else M.no) (cArgs [cVar 1, cBin gAdd (cK (.int 1)) (cCall (fun ds => if ds.length = 2 then ev 59 .f_law_draw ds else M.no) (cArgs [cVar 1, cK (.int 5)])), cK (.bl false)])))
  (sIf (cNotT (cTru (cCall (fun ds => if ds.length = 2 then ev 59 .f_law_same ds else M.no) (cArgs [cCall (fun ds => if ds.length = 2 then ev 59 .f_truth ds else M.no) (cArgs [cVar 3, cVar 5]), cCall (fun ds => if ds.length = 3 then ev 59 .f_law_where ds else M.no) (cArgs [cVar 2, cVar 5, cK (.bl false)])])))) (sRet (cK (.bl false))) (sNil))) ((List.range 3).map nD) [some (.lst (ns.map .int)), some (.ref 0), some A.lawD, some A.progD, none, none] [] [P1] = _ := g4
  rw [g4', oan_nx, x_ret, x_k]
  rfl
end K
open PySem PySem.W PyProof.Rows
set_option maxHeartbeats 0 in
theorem PySem.Challenge.cw_elsewhere_k13_truth_in_models_holds : PySem.Challenge.rw_elsewhere_k13_truth_in_models.Holds := by
  w_on; o_law; k_head; (case hw => w_witness2)
  k_fill
  refine Fx.law_end (l := PySem.Challenge.rw_elsewhere_k13_truth_in_models) (N := 60) (x := "_law_script") (g := K.ev 60 .f_law) rfl rfl ⟨rfl, by decide, by decide⟩ (fun w h Y => PySem.W.kIn_of Y) ?F K.law_true
  case F =>
    intro w mg fa h KX G hmg
    refine' K.fin_ok (K.ad_mk KX G hmg ?ka0 ?kb0 ?kc0 ?kd0 ?ke0 ?kf0 ?kg0 ?kh0_0 ?kh0_1 ?kh0_2 ?a0 ?l0 ?c0 ?k0 ?a1 ?l1 ?c1 ?k1 ?a2 ?l2 ?c2 ?k2 ?a3 ?l3 ?c3 ?k3 ?a4 ?l4 ?c4 ?k4 ?a5 ?l5 ?c5 ?k5 ?a6 ?l6 ?c6 ?k6 ?a7 ?l7 ?c7 ?k7 ?a8 ?l8 ?c8 ?k8 ?a9 ?l9 ?c9 ?k9 ?a10 ?l10 ?c10 ?k10 ?a11 ?l11 ?c11 ?k11 ?a12 ?l12 ?c12 ?k12 ?a13 ?l13 ?c13 ?k13 ?a14 ?l14 ?c14 ?k14 ?a15 ?l15 ?c15 ?k15 ?a16 ?l16 ?c16 ?k16 ?a17 ?l17 ?c17 ?k17 ?a18 ?l18 ?c18 ?k18 ?a19 ?l19 ?c19 ?k19 ?a20 ?l20 ?c20 ?k20 ?a21 ?l21 ?c21 ?k21 ?a22 ?l22 ?c22 ?k22 ?a23 ?l23 ?c23 ?k23 ?a24 ?i24 ?l24 ?c24 ?k24 ?a25 ?i25 ?l25 ?c25 ?k25 ?a26 ?i26 ?l26 ?c26 ?k26 ?a27 ?i27 ?l27 ?c27 ?k27 ?z0 ?z1 ?z2 ?z3 ?z4 ?z5 ?z6 ?z7 ?z8 ?z9 ?xa0 ?xb0 ?xc0 ?xd0 ?xe0 ?xf0 ?xg0 ?xh0 ?xi0 ?xj0 ?xk0 ?xl0)
    (case ka0 => k_is)
    (case kb0 => k_is)
    (case kc0 => k_is)
    (case kd0 => k_is)
    (case ke0 => k_is)
    (case kf0 => k_is)
    (case kg0 => k_is)
    (case kh0_0 => k_is)
    (case kh0_1 => k_is)
    (case kh0_2 => k_is)
    (case a0 => k_is)
    (case l0 => k_is)
    (case c0 => k_is)
    (case k0 => k_is)
    (case a1 => k_is)
    (case l1 => k_is)
    (case c1 => k_is)
    (case k1 => k_is)
    (case a2 => k_is)
    (case l2 => k_is)
    (case c2 => k_is)
    (case k2 => k_is)
    (case a3 => k_is)
    (case l3 => k_is)
    (case c3 => k_is)
    (case k3 => k_is)
    (case a4 => k_is)
    (case l4 => k_is)
    (case c4 => k_is)
    (case k4 => k_is)
    (case a5 => k_is)
    (case l5 => k_is)
    (case c5 => k_is)
    (case k5 => k_is)
    (case a6 => k_is)
    (case l6 => k_is)
    (case c6 => k_is)
    (case k6 => k_is)
    (case a7 => k_is)
    (case l7 => k_is)
    (case c7 => k_is)
    (case k7 => k_is)
    (case a8 => k_is)
    (case l8 => k_is)
    (case c8 => k_is)
    (case k8 => k_is)
    (case a9 => k_is)
    (case l9 => k_is)
    (case c9 => k_is)
    (case k9 => k_is)
    (case a10 => k_is)
    (case l10 => k_is)
    (case c10 => k_is)
    (case k10 => k_is)
    (case a11 => k_is)
    (case l11 => k_is)
    (case c11 => k_is)
    (case k11 => k_is)
    (case a12 => k_is)
    (case l12 => k_is)
    (case c12 => k_is)
    (case k12 => k_is)
    (case a13 => k_is)
    (case l13 => k_is)
    (case c13 => k_is)
    (case k13 => k_is)
    (case a14 => k_is)
    (case l14 => k_is)
    (case c14 => k_is)
    (case k14 => k_is)
    (case a15 => k_is)
    (case l15 => k_is)
    (case c15 => k_is)
    (case k15 => k_is)
    (case a16 => k_is)
    (case l16 => k_is)
    (case c16 => k_is)
    (case k16 => k_is)
    (case a17 => k_is)
    (case l17 => k_is)
    (case c17 => k_is)
    (case k17 => k_is)
    (case a18 => k_is)
    (case l18 => k_is)
    (case c18 => k_is)
    (case k18 => k_is)
    (case a19 => k_is)
    (case l19 => k_is)
    (case c19 => k_is)
    (case k19 => k_is)
    (case a20 => k_is)
    (case l20 => k_is)
    (case c20 => k_is)
    (case k20 => k_is)
    (case a21 => k_is)
    (case l21 => k_is)
    (case c21 => k_is)
    (case k21 => k_is)
    (case a22 => k_is)
    (case l22 => k_is)
    (case c22 => k_is)
    (case k22 => k_is)
    (case a23 => k_is)
    (case l23 => k_is)
    (case c23 => k_is)
    (case k23 => k_is)
    (case a24 => k_is)
    (case i24 => k_is)
    (case l24 => k_is)
    (case c24 => k_is)
    (case k24 => k_is)
    (case a25 => k_is)
    (case i25 => k_is)
    (case l25 => k_is)
    (case c25 => k_is)
    (case k25 => k_is)
    (case a26 => k_is)
    (case i26 => k_is)
    (case l26 => k_is)
    (case c26 => k_is)
    (case k26 => k_is)
    (case a27 => k_is)
    (case i27 => k_is)
    (case l27 => k_is)
    (case c27 => k_is)
    (case k27 => k_is)
    (case z0 => k_is)
    (case z1 => k_is)
    (case z2 => k_is)
    (case z3 => k_is)
    (case z4 => k_is)
    (case z5 => k_is)
    (case z6 => k_is)
    (case z7 => k_is)
    (case z8 => k_is)
    (case z9 => k_is)
    (case xa0 => k_is)
    (case xb0 => k_exc)
    (case xc0 => k_is)
    (case xd0 => k_is)
    (case xe0 => k_is)
    (case xf0 => k_is)
    (case xg0 => k_is)
    (case xh0 => k_is)
    (case xi0 => k_is)
    (case xj0 => k_is)
    (case xk0 => k_is)
    (case xl0 => k_is)
