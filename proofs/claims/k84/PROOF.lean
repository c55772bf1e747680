import PyProof.Rows.All
import Wide.All
import OpenK.AllK
import Wide.FinOn
import HandS.ForMost
import HandS.Exc
import HandS.ExcOwn
import HandS.WordsExc
import HandS.CallSlots
import KE.KeyNested
import HandS.TupAny
import HandS.Deep
import HandS.IsInst
import HandS.WordsDict
import HandS.SortKw
import KE.DataMinMax
import HandS.CallLocal
import HandS.Dict
import HandS.Sort
import HandS.TryElse
import HandS.ExcIs
import KE.KEqDict
import HandS.Iter
import PyProof.DictRoadsH
import KE.SortCalls
import KE.KDictCopyH
import KE.KDictSum
import HandS.Text
import HandS.More
import KE.GoesMore
import HandS.Zip
import KE.KRevSl
import HandS.SetFor
import HandS.Strs
import HandS.TupSets
import HandS.DictComp
import HandS.TryMany
import HandS.SetBool
import HandS.WrittenGet
import HandS.StrMore
import HandS.FStr
import HandS.ReplaceLit
import PySem.Challenge.RW_elsewhere_k84_faulty_texts_of_models
set_option Elab.async false
set_option linter.all false
set_option maxRecDepth 100000
/-! The layer of plain data: what an expression, a statement, a def does, told by functions on trees. -/
namespace Fx
open PySem PySem.Spec L2

/-- a value as a tree; `ref n` is the n-th object that may still change; lists, dicts, instances within a tree stand still -/
inductive D where
  | non | bl (b : Bool) | int (i : Int) | str (x : Str)
  | tup (xs : List D) | lst (xs : List D)
  | dic (ks xs : List D)
  | dct (ks xs : List D)
  | ins (c : Str) (ns : List Str) (xs : List D)
  | fn (x : Str) | ref (n : Nat) | rng (n : Nat)
  deriving Inhabited

def keyOf : D → Option Key
  | .int i => some (.inl i)
  | .str x => some (.inr x)
  | _ => none

mutual
/-- a tuple of texts, numbers and such tuples as a key -/
def toKey : D → Option NestedKey
  | .int i => some (.num i)
  | .str x => some (.text x)
  | .tup ds => (toKeys ds).map .tup
  | _ => none
def toKeys : List D → Option (List NestedKey)
  | [] => some []
  | d :: ds => match toKey d, toKeys ds with
    | some k, some ks => some (k :: ks)
    | _, _ => none
end
/-- a dict whose keys are tuples: its entries -/
def DNo (a : Addr) (es : List DictEntry) (ep : Nat) : HO := .ext fun h => ∃ o, h.get? a = some o ∧ o.ExactDict ∧ o.data = .dict es.toArray ep ∧ es.length ≤ sizeLine ∧ (a == sysModules) = false
/-- range(n) as a thing -/
def RngO (a : Addr) (n : Nat) : HO := .ext fun h => ∃ t u v, IsRange h a 0 n 1 t u v
/-- entries, keys, where the keys stand, values -/
inductive DEnts (w : World) : List DictEntry → List D → List Addr → List V → Prop
  | nil : DEnts w [] [] [] []
  | cons {e : DictEntry} {k : D} {κ : List NestedKey} {a : Addr} {v : V} {es : List DictEntry} {ks : List D} {as : List Addr} {vs : List V} : toKey k = some (.tup κ) → (NestedKey.tup κ).depth ≤ 8 → e.hash = (NestedKey.tup κ).hash w → e.key = .ref a → RelV v e.val → DEnts w es ks as vs → DEnts w (e :: es) (k :: ks) (a :: as) (v :: vs)
/-- a tuple, a list that stands still: tracked and not among the changing ones, or written -/
def KT (K : PySem.W.Frag) (a : Addr) (xs : List V) : Prop := ∃ (o : Obj) (its : Array Value) (n : Nat), K.lookup a = some o ∧ o.cls = .type "tuple" ∧ o.data = .seq its n ∧ its.size ≤ sizeLine ∧ Vals xs its.toList
/-- where the changing objects stand: those that have a number, those that are hidden just now -/
structure Zn where
  r : List Addr
  h : List Addr
def Zn.Out (ρ : Zn) (a : Addr) : Prop := a ∉ ρ.r ∧ a ∉ ρ.h
def KL (K : PySem.W.Frag) (a : Addr) (xs : List V) : Prop := ∃ (o : Obj) (its : Array Value) (n : Nat), K.lookup a = some o ∧ o.cls = .type "list" ∧ o.dict = none ∧ o.data = .seq its n ∧ its.size ≤ sizeLine ∧ Vals xs its.toList
def Still (ρ : Zn) (H : Hp) (a : Addr) (u : HO) : Prop := ρ.Out a ∧ Rd H a u

structure Cfg where
  K : PySem.W.Frag
  mg : Str → Option Value
  w : World

mutual
def Rep (C : Cfg) (ρ : Zn) (H : Hp) : D → V → Prop
  | .non, v => v = .non
  | .bl b, v => v = .bl b
  | .int i, v => v = .int i
  | .str x, v => v = .str x
  | .fn x, v => ∃ a, C.mg x = some (.ref a) ∧ v = .ref a
  | .ref n, v => ∃ a, ρ.r[n]? = some a ∧ v = .ref a
  | .rng n, v => ∃ a, v = .ref a ∧ Still ρ H a (RngO a n)
  | .tup ds, v => ∃ a vs, v = .ref a ∧ (Still ρ H a (.tup vs) ∨ KT C.K a vs) ∧ Reps C ρ H ds vs
  | .lst ds, v => ∃ a vs, v = .ref a ∧ (Still ρ H a (.lst vs) ∨ KL C.K a vs) ∧ Reps C ρ H ds vs
  | .dic ks ds, v => ∃ a kvs, v = .ref a ∧ Still ρ H a (.dK kvs) ∧ ks.map keyOf = kvs.map (fun p => some p.1) ∧ Reps C ρ H ds (kvs.map (·.2))
  | .dct ks ds, v => ∃ a es ep as vs, v = .ref a ∧ Still ρ H a (DNo a es ep) ∧ DEnts C.w es ks as vs ∧ (ks.map toKey).Nodup ∧ Reps C ρ H ks (as.map .ref) ∧ Reps C ρ H ds vs
  | .ins c ns ds, v => ∃ a A dx fs, v = .ref a ∧ C.mg c = some (.ref A) ∧ ρ.Out a ∧ H a = some (.ins A dx fs) ∧ ns = fs.map (·.1) ∧ Reps C ρ H ds (fs.map (·.2))
def Reps (C : Cfg) (ρ : Zn) (H : Hp) : List D → List V → Prop
  | [], vs => vs = []
  | d :: ds, vs => ∃ v r, vs = v :: r ∧ Rep C ρ H d v ∧ Reps C ρ H ds r
end

/-- an object that may change -/
def RepO (C : Cfg) (ρ : Zn) (H : Hp) : D → Addr → Prop
  | .lst ds, a => ∃ vs, H a = some (.lst vs) ∧ Reps C ρ H ds vs
  | .dic ks ds, a => ∃ kvs, H a = some (.dK kvs) ∧ ks.map keyOf = kvs.map (fun p => some p.1) ∧ Reps C ρ H ds (kvs.map (·.2))
  | .dct ks ds, a => ∃ es ep as vs, H a = some (DNo a es ep) ∧ DEnts C.w es ks as vs ∧ (ks.map toKey).Nodup ∧ Reps C ρ H ks (as.map .ref) ∧ Reps C ρ H ds vs
  | .ins c ns ds, a => ∃ A dx fs, C.mg c = some (.ref A) ∧ H a = some (.ins A dx fs) ∧ ns = fs.map (·.1) ∧ Reps C ρ H ds (fs.map (·.2))
  | _, _ => False

structure RepS (C : Cfg) (ρ : Zn) (H : Hp) (w : List D) : Prop where
  len : ρ.r.length = w.length
  nd : ρ.r.Nodup
  obj : ∀ (i : Nat) a d, ρ.r[i]? = some a → w[i]? = some d → RepO C ρ H d a
  hid : ∀ a ∈ ρ.h, a ∉ ρ.r ∧ ∃ o, H a = some o

abbrev Env := List (Option D)
structure RepE (C : Cfg) (ρ : Zn) (H : Hp) (env : Env) (σ : St) : Prop where
  len : env.length = σ.length
  at' : ∀ (i : Nat) d, env[i]? = some (some d) → ∃ v, σ[i]? = some (some v) ∧ Rep C ρ H d v

structure ExtR (ρ ρ' : Zn) (H H' : Hp) : Prop where
  pre : ∃ ν, ρ'.r = ρ.r ++ ν
  keep : ∀ a o, H a = some o → ρ.Out a → H' a = some o ∧ ρ'.Out a
structure Ext (ρ ρ' : Zn) (H H' : Hp) : Prop where
  pre : ∃ ν, ρ'.r = ρ.r ++ ν
  hid : ρ'.h = ρ.h
  keep : ∀ a o, H a = some o → ρ.Out a → H' a = some o ∧ ρ'.Out a
  same : ∀ a ∈ ρ.h, H' a = H a
theorem Ext.r {ρ ρ' : Zn} {H H' : Hp} (x : Ext ρ ρ' H H') : ExtR ρ ρ' H H' := ⟨x.pre, x.keep⟩

theorem Ext.refl {ρ : Zn} {H : Hp} : Ext ρ ρ H H := ⟨⟨[], by simp⟩, rfl, fun _ _ e n => ⟨e, n⟩, fun _ _ => rfl⟩
theorem Ext.trans {ρ ρ1 ρ2 : Zn} {H H1 H2 : Hp} (a : Ext ρ ρ1 H H1) (b : Ext ρ1 ρ2 H1 H2) : Ext ρ ρ2 H H2 := by
  obtain ⟨⟨ν, e1⟩, ha, ka, sa⟩ := a
  obtain ⟨⟨μ, e2⟩, hb, kb, sb⟩ := b
  refine ⟨⟨ν ++ μ, by rw [e2, e1, List.append_assoc]⟩, hb.trans ha, fun c o e n => ?_, fun c hc => (sb c (by rw [ha]; exact hc)).trans (sa c hc)⟩
  obtain ⟨e1, n1⟩ := ka c o e n
  exact kb c o e1 n1
theorem ExtR.ref {ρ ρ' : Zn} {H H' : Hp} (x : ExtR ρ ρ' H H') {n : Nat} {a : Addr} (h : ρ.r[n]? = some a) : ρ'.r[n]? = some a := by
  obtain ⟨⟨ν, e⟩, _⟩ := x
  have hl := (List.getElem?_eq_some_iff.mp h).1
  rw [e, List.getElem?_append_left hl]
  exact h
theorem Still.extR {ρ ρ' : Zn} {H H' : Hp} {a : Addr} {u : HO} (x : ExtR ρ ρ' H H') (h : Still ρ H a u) : Still ρ' H' a u := by
  obtain ⟨n, h | ⟨o, h⟩⟩ := h
  · obtain ⟨e, n'⟩ := x.keep _ _ h n
    exact ⟨n', .inl e⟩
  · obtain ⟨e, n'⟩ := x.keep _ _ h n
    exact ⟨n', .inr ⟨o, e⟩⟩

section
variable {C : Cfg} {ρ ρ' : Zn} {H H' : Hp}
mutual
theorem Rep.extR (x : ExtR ρ ρ' H H') : ∀ (d : D) {v : V}, Rep C ρ H d v → Rep C ρ' H' d v
  | .non, v, h => h
  | .bl b, v, h => h
  | .int i, v, h => h
  | .str i, v, h => h
  | .fn i, v, h => h
  | .rng n, v, ⟨a, e, h⟩ => ⟨a, e, Still.extR x h⟩
  | .ref n, v, ⟨a, h, e⟩ => ⟨a, x.ref h, e⟩
  | .tup ds, v, ⟨a, vs, e, h, r⟩ => ⟨a, vs, e, h.imp (Still.extR x) id, Reps.extR x ds r⟩
  | .lst ds, v, ⟨a, vs, e, h, r⟩ => ⟨a, vs, e, h.imp (Still.extR x) id, Reps.extR x ds r⟩
  | .dic ks ds, v, ⟨a, kvs, e, h, k, r⟩ => ⟨a, kvs, e, Still.extR x h, k, Reps.extR x ds r⟩
  | .dct ks ds, v, ⟨a, es, ep, as, vs, e, h, en, nd, rk, r⟩ => ⟨a, es, ep, as, vs, e, Still.extR x h, en, nd, Reps.extR x ks rk, Reps.extR x ds r⟩
  | .ins c ns ds, v, ⟨a, A, dx, fs, e, m, n, h, k, r⟩ => ⟨a, A, dx, fs, e, m, (x.keep _ _ h n).2, (x.keep _ _ h n).1, k, Reps.extR x ds r⟩
theorem Reps.extR (x : ExtR ρ ρ' H H') : ∀ (ds : List D) {vs : List V}, Reps C ρ H ds vs → Reps C ρ' H' ds vs
  | [], vs, h => h
  | d :: ds, vs, ⟨v, r, e, h1, h2⟩ => ⟨v, r, e, Rep.extR x d h1, Reps.extR x ds h2⟩
end
theorem Still.ext {a : Addr} {u : HO} (x : Ext ρ ρ' H H') (h : Still ρ H a u) : Still ρ' H' a u := h.extR x.r
theorem Rep.ext (x : Ext ρ ρ' H H') (d : D) {v : V} (h : Rep C ρ H d v) : Rep C ρ' H' d v := Rep.extR x.r d h
theorem Reps.ext (x : Ext ρ ρ' H H') (ds : List D) {vs : List V} (h : Reps C ρ H ds vs) : Reps C ρ' H' ds vs := Reps.extR x.r ds h
theorem RepE.extR {env : Env} {σ : St} (x : ExtR ρ ρ' H H') (h : RepE C ρ H env σ) : RepE C ρ' H' env σ := ⟨h.len, fun i d e => by
  obtain ⟨v, h1, h2⟩ := h.at' i d e
  exact ⟨v, h1, Rep.extR x d h2⟩⟩
theorem RepE.ext {env : Env} {σ : St} (x : Ext ρ ρ' H H') (h : RepE C ρ H env σ) : RepE C ρ' H' env σ := ⟨h.len, fun i d e => by
  obtain ⟨v, h1, h2⟩ := h.at' i d e
  exact ⟨v, h1, Rep.ext x d h2⟩⟩
theorem Reps.len : ∀ {ds : List D} {vs : List V}, Reps C ρ H ds vs → ds.length = vs.length
  | [], _, h => by
    have e : _ = [] := h
    rw [e]
    rfl
  | _ :: ds, _, ⟨v, r, e, _, h⟩ => by
    rw [e, List.length_cons, List.length_cons, Reps.len h]
theorem Reps.get : ∀ {ds : List D} {vs : List V} {i : Nat} {d : D}, Reps C ρ H ds vs → ds[i]? = some d → ∃ v, vs[i]? = some v ∧ Rep C ρ H d v
  | [], _, _, _, _, e => by simp at e
  | d :: ds, _, 0, d', ⟨v, r, e, h1, _⟩, q => by
    simp only [List.getElem?_cons_zero, Option.some.injEq] at q
    subst q
    subst e
    exact ⟨v, rfl, h1⟩
  | d :: ds, _, i + 1, d', ⟨v, r, e, _, h2⟩, q => by
    subst e
    exact Reps.get (i := i) h2 (by simpa using q)
theorem Reps.none : ∀ {ds : List D} {vs : List V} {i : Nat}, Reps C ρ H ds vs → ds[i]? = none → vs[i]? = none := fun {ds vs i} h e => by
  have h1 := h.len
  have h2 : ds.length ≤ i := List.getElem?_eq_none_iff.mp e
  exact List.getElem?_eq_none_iff.mpr (by omega)
theorem Reps.append : ∀ {ds es : List D} {vs us : List V}, Reps C ρ H ds vs → Reps C ρ H es us → Reps C ρ H (ds ++ es) (vs ++ us)
  | [], _, vs, us, h, h' => by
    have e : vs = [] := h
    subst e
    exact h'
  | d :: ds, _, _, _, ⟨v, r, e, h1, h2⟩, h' => by
    subst e
    exact ⟨v, _, rfl, h1, Reps.append h2 h'⟩
theorem Reps.nil : Reps C ρ H [] [] := rfl
theorem Reps.one {d : D} {v : V} (h : Rep C ρ H d v) : Reps C ρ H [d] [v] := ⟨v, [], rfl, h, rfl⟩
theorem Reps.take : ∀ {ds : List D} {vs : List V} (n : Nat), Reps C ρ H ds vs → Reps C ρ H (ds.take n) (vs.take n)
  | ds, vs, 0, _ => by simp [Reps]
  | [], vs, n + 1, h => by
    have e : vs = [] := h
    subst e
    exact rfl
  | d :: ds, _, n + 1, ⟨v, r, e, h1, h2⟩ => by
    subst e
    exact ⟨v, r.take n, rfl, h1, Reps.take n h2⟩
theorem Reps.drop : ∀ {ds : List D} {vs : List V} (n : Nat), Reps C ρ H ds vs → Reps C ρ H (ds.drop n) (vs.drop n)
  | ds, vs, 0, h => h
  | [], vs, n + 1, h => by
    have e : vs = [] := h
    subst e
    exact rfl
  | d :: ds, _, n + 1, ⟨v, r, e, _, h2⟩ => by
    subst e
    exact Reps.drop n h2
theorem Reps.set {d : D} {v : V} (hd : Rep C ρ H d v) : ∀ {ds : List D} {vs : List V} (i : Nat), Reps C ρ H ds vs → Reps C ρ H (ds.set i d) (vs.set i v)
  | [], vs, i, h => by
    have e : vs = [] := h
    subst e
    exact rfl
  | d' :: ds, _, 0, ⟨v', r, e, _, h2⟩ => by
    subst e
    exact ⟨v, r, rfl, hd, h2⟩
  | d' :: ds, _, i + 1, ⟨v', r, e, h1, h2⟩ => by
    subst e
    exact ⟨v', r.set i v, rfl, h1, Reps.set hd i h2⟩
theorem Reps.eraseIdx : ∀ {ds : List D} {vs : List V} (i : Nat), Reps C ρ H ds vs → Reps C ρ H (ds.eraseIdx i) (vs.eraseIdx i)
  | [], vs, i, h => by
    have e : vs = [] := h
    subst e
    exact rfl
  | d' :: ds, _, 0, ⟨v', r, e, _, h2⟩ => by
    subst e
    exact h2
  | d' :: ds, _, i + 1, ⟨v', r, e, h1, h2⟩ => by
    subst e
    exact ⟨v', _, rfl, h1, Reps.eraseIdx i h2⟩
theorem Reps.reverse : ∀ {ds : List D} {vs : List V}, Reps C ρ H ds vs → Reps C ρ H ds.reverse vs.reverse
  | [], vs, h => by
    have e : vs = [] := h
    subst e
    exact rfl
  | d :: ds, _, ⟨v, r, e, h1, h2⟩ => by
    subst e
    rw [List.reverse_cons, List.reverse_cons]
    exact Reps.append (Reps.reverse h2) (Reps.one h1)
end

/-! ### what is computed -/
inductive Out (α : Type) where
  | ok (a : α) (w : List D)
  | exn (c : Str) (ns : List Str) (xs : List D) (w : List D)
  | no
/-- ro: the objects of those who called, w: the own ones -/
abbrev M (α : Type) := List D → List D → Out α
def M.pure {α : Type} (a : α) : M α := fun _ w => .ok a w
def M.no {α : Type} : M α := fun _ _ => .no
def M.exn {α : Type} (c : Str) (ns : List Str) (xs : List D) : M α := fun _ w => .exn c ns xs w
def M.bind {α β : Type} (m : M α) (f : α → M β) : M β := fun ro w => match m ro w with
  | .ok a w' => f a ro w'
  | .exn c ns xs w' => .exn c ns xs w'
  | .no => .no
instance : Monad M where
  pure := M.pure
  bind := M.bind
/-- an exception: its class, its own dict -/
def RepX (C : Cfg) (ρ : Zn) (H : Hp) (c : Str) (ns : List Str) (xs : List D) (cls : Value) (dx : Option Addr) : Prop :=
  ∃ A, C.mg c = some (.ref A) ∧ cls = .ref A ∧ ((ns = [] ∧ xs = [] ∧ dx = none) ∨ ∃ d fs, dx = some d ∧ ns ≠ [] ∧ ρ.Out d ∧ H d = some (.xd fs) ∧ ns = fs.map (·.1) ∧ Reps C ρ H xs (fs.map (·.2)))

section
variable {α β : Type}
def AfterR (C : Cfg) (R : Zn → Hp → α → β → Prop) (W : WX) (σ : St) (ρ : Zn) (H : Hp) (ro : List D) (o : Out α) (Q : β → Hp → Prop) : Prop :=
  match o with
  | .ok d w => ∀ v ρ' H', Ext ρ ρ' H H' → RepS C ρ' H' (ro ++ w) → R ρ' H' d v → Q v H'
  | .exn c ns xs w => ∀ cls dx ρ' H', Ext ρ ρ' H H' → RepS C ρ' H' (ro ++ w) → RepX C ρ' H' c ns xs cls dx → W cls dx σ H'
  | .no => False
def tR (C : Cfg) (R : Zn → Hp → α → β → Prop) (W : WX) (f : Env → M α) : St → Hp → (β → Hp → Prop) → Prop := fun σ H Q =>
  ∃ ρ env ro w, RepS C ρ H (ro ++ w) ∧ RepE C ρ H env σ ∧ AfterR C R W σ ρ H ro (f env ro w) Q

variable {C : Cfg} {R : Zn → Hp → α → β → Prop} {W : WX} {σ : St} {ρ ρ' : Zn} {H H' : Hp} {ro w : List D} {Q Q' : β → Hp → Prop}
theorem AfterR.ext {o : Out α} (x : Ext ρ ρ' H H') (h : AfterR C R W σ ρ H ro o Q) : AfterR C R W σ ρ' H' ro o Q := by
  cases o with
  | ok d w => exact fun v ρ2 H2 y hS hR => h v ρ2 H2 (x.trans y) hS hR
  | exn c ns xs w => exact fun cls dx ρ2 H2 y hS hR => h cls dx ρ2 H2 (x.trans y) hS hR
  | no => exact h
/-- one part after another -/
theorem tR_seq {α' β' : Type} {R' : Zn → Hp → α' → β' → Prop} {fa : Env → M α} {env : Env} {g : α → M α'} {Q : β' → Hp → Prop} {K : β → Hp → Prop} (hS : RepS C ρ H (ro ++ w)) (hE : RepE C ρ H env σ)
    (h : AfterR C R' W σ ρ H ro (M.bind (fa env) g ro w) Q)
    (k : ∀ d w1 v ρ1 H1, Ext ρ ρ1 H H1 → RepS C ρ1 H1 (ro ++ w1) → R ρ1 H1 d v → AfterR C R' W σ ρ1 H1 ro (g d ro w1) Q → K v H1) : tR C R W fa σ H K := by
  refine ⟨ρ, env, ro, w, hS, hE, ?_⟩
  unfold M.bind at h
  cases e : fa env ro w with
  | ok d w1 =>
    rw [e] at h
    exact fun v ρ1 H1 x s r => k d w1 v ρ1 H1 x s r (AfterR.ext x h)
  | exn c ns xs w1 =>
    rw [e] at h
    exact h
  | no =>
    rw [e] at h
    exact h
end

abbrev EF := Env → M D
abbrev RB : Zn → Hp → Bool → Bool → Prop := fun _ _ a b => a = b
abbrev tE (C : Cfg) (W : WX) (f : EF) : TE := tR C (Rep C) W f
abbrev tA (C : Cfg) (W : WX) (f : Env → M (List D)) : TA := tR C (Reps C) W f
abbrev tT (C : Cfg) (W : WX) (f : Env → M Bool) : TT := tR C RB W f

theorem pe_imp {X : Cx} {e : Expr} {t t' : TE} (h : PE X e t) (i : ∀ σ H Q, t' σ H Q → t σ H Q) : PE X e t' := ⟨fun pins s σ H Q I q => h.run pins s σ H Q I (i σ H Q q)⟩
theorem pt_imp {X : Cx} {e : Expr} {t t' : TT} (h : PT X e t) (i : ∀ σ H Q, t' σ H Q → t σ H Q) : PT X e t' := ⟨fun pins s σ H Q I q => h.run pins s σ H Q I (i σ H Q q)⟩
theorem pa_imp {X : Cx} {e : List Expr} {t t' : TA} (h : PA X e t) (i : ∀ σ H Q, t' σ H Q → t σ H Q) : PA X e t' := ⟨fun pos pins s σ H Q I q => h.run pos pins s σ H Q I (i σ H Q q)⟩

end Fx
namespace Fx
open PySem PySem.Spec L2

/-! ### the state behind a step -/
section
variable {C : Cfg} {ρ : Zn} {H H' : Hp} {w : List D}
theorem RepO.has {d : D} {a : Addr} (h : RepO C ρ H d a) : ∃ o, H a = some o := by
  cases d with
  | lst ds => obtain ⟨vs, e, _⟩ := h; exact ⟨_, e⟩
  | dic ks ds => obtain ⟨vs, e, _⟩ := h; exact ⟨_, e⟩
  | dct ks ds => obtain ⟨es, ep, as, vs, e, _⟩ := h; exact ⟨_, e⟩
  | ins c ns ds => obtain ⟨A, dx, fs, _, e, _⟩ := h; exact ⟨_, e⟩
  | _ => exact (show False from h).elim
theorem RepS.has (hS : RepS C ρ H w) {a : Addr} (ha : a ∈ ρ.r) : ∃ o, H a = some o := by
  obtain ⟨i, hi, rfl⟩ := List.mem_iff_getElem.mp ha
  have hw : i < w.length := by rw [← hS.len]; exact hi
  exact (hS.obj i _ _ (List.getElem?_eq_getElem hi) (List.getElem?_eq_getElem hw)).has
theorem RepS.fresh (hS : RepS C ρ H w) {p : Addr} (hp : H p = none) : ρ.Out p := by
  refine ⟨fun h => ?_, fun h => ?_⟩
  · obtain ⟨o, e⟩ := hS.has h
    rw [hp] at e
    cases e
  · obtain ⟨o, e⟩ := (hS.hid p h).2
    rw [hp] at e
    cases e
theorem RepO.same {d : D} {a : Addr} {ρ' : Zn} (x : Ext ρ ρ' H H') (e : H' a = H a) (h : RepO C ρ H d a) : RepO C ρ' H' d a := by
  cases d with
  | lst ds => obtain ⟨vs, q, r⟩ := h; exact ⟨vs, e.trans q, Reps.ext x ds r⟩
  | dic ks ds => obtain ⟨vs, q, k, r⟩ := h; exact ⟨vs, e.trans q, k, Reps.ext x ds r⟩
  | dct ks ds => obtain ⟨es, ep, as, vs, q, en, nd, rk, r⟩ := h; exact ⟨es, ep, as, vs, e.trans q, en, nd, Reps.ext x ks rk, Reps.ext x ds r⟩
  | ins c ns ds => obtain ⟨A, dx, fs, m, q, k, r⟩ := h; exact ⟨A, dx, fs, m, e.trans q, k, Reps.ext x ds r⟩
  | _ => exact (show False from h).elim
theorem RepS.same (hS : RepS C ρ H w) (x : Ext ρ ρ H H') (e : ∀ a ∈ ρ.r, H' a = H a) : RepS C ρ H' w :=
  ⟨hS.len, hS.nd, fun i a d h1 h2 => RepO.same x (e a (List.mem_of_getElem? h1)) (hS.obj i a d h1 h2), fun a ha => ⟨(hS.hid a ha).1, by rw [x.same a ha]; exact (hS.hid a ha).2⟩⟩
/-- a new thing that stands still -/
theorem ext_new (hS : RepS C ρ H w) {p : Addr} {o : HO} (hp : H p = none) : Ext ρ ρ H (upd H p o) :=
  ⟨⟨[], by simp⟩, rfl, fun a u e n => ⟨by rw [upd_ne (ne_of_none e hp)]; exact e, n⟩, fun a ha => upd_ne fun e => (hS.fresh hp).2 (e ▸ ha)⟩
theorem reps_new (hS : RepS C ρ H w) {p : Addr} {o : HO} (hp : H p = none) : RepS C ρ (upd H p o) w :=
  hS.same (ext_new hS hp) fun a ha => upd_ne fun e => (hS.fresh hp).1 (e ▸ ha)
/-- a new thing that may change -/
abbrev Zn.more (ρ : Zn) (p : Addr) : Zn := ⟨ρ.r ++ [p], ρ.h⟩
theorem ext_mut (hS : RepS C ρ H w) {p : Addr} {o : HO} (hp : H p = none) : Ext ρ (ρ.more p) H (upd H p o) :=
  ⟨⟨[p], rfl⟩, rfl, fun a u e n => ⟨by rw [upd_ne (ne_of_none e hp)]; exact e, by
    show a ∉ ρ.r ++ [p]
    rw [List.mem_append, not_or]
    exact ⟨n.1, fun z => ne_of_none e hp (List.mem_singleton.mp z)⟩, n.2⟩, fun a ha => upd_ne fun e => (hS.fresh hp).2 (e ▸ ha)⟩
theorem reps_mut (hS : RepS C ρ H w) {p : Addr} {o : HO} {d : D} (hp : H p = none) (h : RepO C (ρ.more p) (upd H p o) d p) : RepS C (ρ.more p) (upd H p o) (w ++ [d]) := by
  refine ⟨by simp [hS.len], ?_, fun i a d' h1 h2 => ?_, fun a ha => ⟨?_, ?_⟩⟩
  · show (ρ.r ++ [p]).Nodup
    rw [List.nodup_append]
    refine ⟨hS.nd, by simp, fun a ha b hb e => ?_⟩
    rw [List.mem_singleton] at hb
    exact (hS.fresh hp).1 (hb ▸ e ▸ ha)
  · replace h1 : (ρ.r ++ [p])[i]? = some a := h1
    by_cases hi : i < ρ.r.length
    · rw [List.getElem?_append_left hi] at h1
      rw [List.getElem?_append_left (by rw [← hS.len]; exact hi)] at h2
      exact RepO.same (ext_mut hS hp) (upd_ne fun e => (hS.fresh hp).1 (e ▸ List.mem_of_getElem? h1)) (hS.obj i a d' h1 h2)
    · have hl := (List.getElem?_eq_some_iff.mp h1).1
      rw [List.length_append, List.length_singleton] at hl
      have e : i = ρ.r.length := by omega
      subst e
      rw [List.getElem?_append_right (Nat.le_refl _), Nat.sub_self] at h1
      rw [List.getElem?_append_right (by rw [hS.len]; exact Nat.le_refl _), hS.len, Nat.sub_self] at h2
      simp only [List.getElem?_cons_zero, Option.some.injEq] at h1 h2
      subst h1
      subst h2
      exact h
  · show a ∉ ρ.r ++ [p]
    rw [List.mem_append, not_or]
    exact ⟨(hS.hid a ha).1, fun z => (hS.fresh hp).2 (List.mem_singleton.mp z ▸ ha)⟩
  · obtain ⟨u, e⟩ := (hS.hid a ha).2
    exact ⟨u, by rw [upd_ne (ne_of_none e hp)]; exact e⟩
/-- the n-th object is written -/
theorem ext_put (hS : RepS C ρ H w) {n : Nat} {a : Addr} {o : HO} (ha : ρ.r[n]? = some a) : Ext ρ ρ H (upd H a o) :=
  ⟨⟨[], by simp⟩, rfl, fun b u e k => ⟨by rw [upd_ne fun z => k.1 (by rw [z]; exact List.mem_of_getElem? ha)]; exact e, k⟩,
    fun b hb => upd_ne fun z => (hS.hid b hb).1 (by rw [z]; exact List.mem_of_getElem? ha)⟩
theorem reps_put (hS : RepS C ρ H w) {n : Nat} {a : Addr} {o : HO} {d : D} (ha : ρ.r[n]? = some a) (h : RepO C ρ (upd H a o) d a) : RepS C ρ (upd H a o) (w.set n d) := by
  refine ⟨by simp [hS.len], hS.nd, fun i b d' h1 h2 => ?_, fun b hb => ⟨(hS.hid b hb).1, by rw [(ext_put (o := o) hS ha).same b hb]; exact (hS.hid b hb).2⟩⟩
  by_cases hi : i = n
  · subst hi
    rw [ha] at h1
    cases h1
    have hl := (List.getElem?_eq_some_iff.mp h2).1
    rw [List.length_set] at hl
    rw [List.getElem?_set_self hl] at h2
    cases h2
    exact h
  · rw [List.getElem?_set_ne (Ne.symm hi)] at h2
    have hb : b ≠ a := by
      intro z
      subst z
      have h1' := List.getElem?_eq_some_iff.mp h1
      have h3' := List.getElem?_eq_some_iff.mp ha
      exact hi ((List.getElem_inj hS.nd).mp (h1'.2.trans h3'.2.symm))
    exact RepO.same (ext_put hS ha) (upd_ne hb) (hS.obj i b d' h1 h2)
end

section
variable {C : Cfg} {α : Type} {W : WX} {σ : St} {ρ : Zn} {H : Hp} {ro w : List D} {Q : VK}
theorem ok_same {d : D} {v : V} (hS : RepS C ρ H (ro ++ w)) (r : Rep C ρ H d v) (h : AfterR C (Rep C) W σ ρ H ro (.ok d w) Q) : Q v H := h v ρ H .refl hS r
theorem ok_int {i : Int} (hS : RepS C ρ H (ro ++ w)) (h : AfterR C (Rep C) W σ ρ H ro (.ok (.int i) w) Q) : Q (.int i) H := ok_same hS (d := .int i) (v := .int i) rfl h
theorem ok_bl {i : Bool} (hS : RepS C ρ H (ro ++ w)) (h : AfterR C (Rep C) W σ ρ H ro (.ok (.bl i) w) Q) : Q (.bl i) H := ok_same hS (d := .bl i) (v := .bl i) rfl h
theorem ok_str {i : Str} (hS : RepS C ρ H (ro ++ w)) (h : AfterR C (Rep C) W σ ρ H ro (.ok (.str i) w) Q) : Q (.str i) H := ok_same hS (d := .str i) (v := .str i) rfl h
theorem ok_non (hS : RepS C ρ H (ro ++ w)) (h : AfterR C (Rep C) W σ ρ H ro (.ok .non w) Q) : Q .non H := ok_same hS (d := .non) (v := .non) rfl h
theorem ok_tup {ds : List D} {vs : List V} (hS : RepS C ρ H (ro ++ w)) (r : Reps C ρ H ds vs) (h : AfterR C (Rep C) W σ ρ H ro (.ok (.tup ds) w) Q) : ∀ p, H p = none → Q (.ref p) (upd H p (.tup vs)) := fun p hp =>
  h _ ρ _ (ext_new hS hp) (reps_new hS hp) ⟨p, vs, rfl, .inl ⟨hS.fresh hp, .inl upd_same⟩, Reps.ext (ext_new hS hp) ds r⟩
theorem ok_lst {ds : List D} {vs : List V} (hS : RepS C ρ H (ro ++ w)) (r : Reps C ρ H ds vs) (h : AfterR C (Rep C) W σ ρ H ro (.ok (.lst ds) w) Q) : ∀ p, H p = none → Q (.ref p) (upd H p (.lst vs)) := fun p hp =>
  h _ ρ _ (ext_new hS hp) (reps_new hS hp) ⟨p, vs, rfl, .inl ⟨hS.fresh hp, .inl upd_same⟩, Reps.ext (ext_new hS hp) ds r⟩
theorem ok_newL {ds : List D} {vs : List V} (hS : RepS C ρ H (ro ++ w)) (r : Reps C ρ H ds vs) (h : AfterR C (Rep C) W σ ρ H ro (.ok (.ref (ro ++ w).length) (w ++ [.lst ds])) Q) : ∀ p, H p = none → Q (.ref p) (upd H p (.lst vs)) := fun p hp =>
  h _ _ _ (ext_mut hS hp) (by rw [← List.append_assoc]; exact reps_mut hS hp ⟨vs, upd_same, Reps.ext (ext_mut hS hp) ds r⟩)
    ⟨p, by show (ρ.r ++ [p])[_]? = _; rw [← hS.len, List.getElem?_append_right (Nat.le_refl _), Nat.sub_self]; rfl, rfl⟩
theorem ok_put {n : Nat} {a : Addr} {o : HO} {d e : D} {v : V} (hS : RepS C ρ H (ro ++ w)) (hn : ¬ n < ro.length) (ha : ρ.r[n]? = some a) (hO : ∀ H', Ext ρ ρ H H' → H' a = some o → RepO C ρ H' d a) (r : Rep C ρ H e v)
    (h : AfterR C (Rep C) W σ ρ H ro (.ok e (w.set (n - ro.length) d)) Q) : Q v (upd H a o) := by
  refine h v ρ _ (ext_put hS ha) ?_ (Rep.ext (ext_put hS ha) e r)
  have z := reps_put (o := o) (d := d) hS ha (hO _ (ext_put hS ha) upd_same)
  rw [List.set_append_right _ _ (by omega)] at z
  exact z
end

/-! ### what is seen of a value: an object that may change, as it stands now -/
def see (ro w : List D) : D → D
  | .ref n => ((ro ++ w)[n]?).getD .non
  | d => d
def M.see (d : D) : M D := fun ro w => .ok (Fx.see ro w d) w
def Seen (C : Cfg) (ρ : Zn) (H : Hp) (d : D) (v : V) : Prop := Rep C ρ H d v ∨ ∃ a, v = .ref a ∧ RepO C ρ H d a
section
variable {C : Cfg} {ρ : Zn} {H : Hp} {ro w : List D}
theorem seen_of {d : D} {v : V} (hS : RepS C ρ H (ro ++ w)) (r : Rep C ρ H d v) : Seen C ρ H (see ro w d) v := by
  cases d with
  | ref n =>
    obtain ⟨a, e, rfl⟩ := r
    have hn := (List.getElem?_eq_some_iff.mp e).1
    have hw : n < (ro ++ w).length := by rw [← hS.len]; exact hn
    have z : see ro w (.ref n) = (ro ++ w)[n] := by
      show ((ro ++ w)[n]?).getD .non = _
      rw [List.getElem?_eq_getElem hw]
      rfl
    rw [z]
    exact .inr ⟨a, rfl, hS.obj n a _ e (List.getElem?_eq_getElem hw)⟩
  | _ => exact .inl r
theorem Still.rd {a : Addr} {u : HO} (h : Still ρ H a u) : Rd H a u := h.2
theorem Seen.lst {ds : List D} {v : V} (h : Seen C ρ H (.lst ds) v) : ∃ a vs, v = .ref a ∧ SqL C.K H a vs ∧ Reps C ρ H ds vs := by
  rcases h with ⟨a, vs, e, h | h, r⟩ | ⟨a, e, vs, h, r⟩
  · exact ⟨a, vs, e, .inl h.2, r⟩
  · exact ⟨a, vs, e, .inr h, r⟩
  · exact ⟨a, vs, e, .inl (.inl h), r⟩
theorem Seen.tup {ds : List D} {v : V} (h : Seen C ρ H (.tup ds) v) : ∃ a vs, v = .ref a ∧ SqT C.K H a vs ∧ Reps C ρ H ds vs := by
  rcases h with ⟨a, vs, e, h | h, r⟩ | ⟨a, e, h⟩
  · exact ⟨a, vs, e, .inl h.2, r⟩
  · exact ⟨a, vs, e, .inr h, r⟩
  · exact (show False from h).elim
theorem Seen.tupR {ds : List D} {v : V} (h : Seen C ρ H (.tup ds) v) : Rep C ρ H (.tup ds) v := by
  rcases h with h | ⟨a, e, h⟩
  · exact h
  · exact (show False from h).elim
theorem Seen.int {i : Int} {v : V} (h : Seen C ρ H (.int i) v) : v = .int i := by
  rcases h with h | ⟨a, e, h⟩
  · exact h
  · exact (show False from h).elim
theorem Seen.str {i : Str} {v : V} (h : Seen C ρ H (.str i) v) : v = .str i := by
  rcases h with h | ⟨a, e, h⟩
  · exact h
  · exact (show False from h).elim
theorem Seen.bl {i : Bool} {v : V} (h : Seen C ρ H (.bl i) v) : v = .bl i := by
  rcases h with h | ⟨a, e, h⟩
  · exact h
  · exact (show False from h).elim
theorem Seen.non {v : V} (h : Seen C ρ H .non v) : v = .non := by
  rcases h with h | ⟨a, e, h⟩
  · exact h
  · exact (show False from h).elim
theorem Seen.dic {ks ds : List D} {v : V} (h : Seen C ρ H (.dic ks ds) v) : ∃ a kvs, v = .ref a ∧ Rd H a (.dK kvs) ∧ ks.map keyOf = kvs.map (fun p => some p.1) ∧ Reps C ρ H ds (kvs.map (·.2)) := by
  rcases h with ⟨a, kvs, e, h, k, r⟩ | ⟨a, e, kvs, h, k, r⟩
  · exact ⟨a, kvs, e, h.2, k, r⟩
  · exact ⟨a, kvs, e, .inl h, k, r⟩
end

/-! ### two values in, one out -/
/-- r is met by what g computes from the things seen -/
def Ok2 (C : Cfg) (r : R2) (g : D → D → M D) : Prop :=
  ∀ (W : WX) (σ : St) (ρ : Zn) (H : Hp) (ro w : List D) (d e : D) (x y : V) (Q : VK), RepS C ρ H (ro ++ w) → Seen C ρ H d x → Seen C ρ H e y → AfterR C (Rep C) W σ ρ H ro (g d e ro w) Q → r x y H Q
def cBin (g : D → D → M D) (fa fb : EF) : EF := fun env => M.bind (fa env) fun d => M.bind (fb env) fun e => M.bind (M.see d) fun d' => M.bind (M.see e) fun e' => g d' e'
theorem tE_bin {C : Cfg} {W : WX} {r : R2} {g : D → D → M D} {fa fb : EF} (h : Ok2 C r g) {σ : St} {H : Hp} {Q : VK} (q : tE C W (cBin g fa fb) σ H Q) : tOp r (tE C W fa) (tE C W fb) σ H Q := by
  obtain ⟨ρ, env, ro, w, hS, hE, q⟩ := q
  refine tR_seq hS hE q fun d w1 v ρ1 H1 x1 s1 r1 q1 => ?_
  refine tR_seq s1 (hE.ext x1) q1 fun e w2 u ρ2 H2 x2 s2 r2 q2 => ?_
  exact h W σ ρ2 H2 ro w2 _ _ v u Q s2 (seen_of s2 (Rep.ext x2 d r1)) (seen_of s2 r2) q2

section
variable {X : Cx} {C : Cfg} {W : WX} {a b : Expr} {fa fb : EF} {pos : Pos}
theorem pf_op {op : Operator} {r : R2} {g : D → D → M D} (ho : OpR X (binaryOp op) r) (hr : Ok2 C r g) (ha : PE X a (tE C W fa)) (hb : PE X b (tE C W fb)) : PE X (.BinOp a op b pos) (tE C W (cBin g fa fb)) :=
  pe_imp (pe_op ho ha hb) fun _ _ _ q => tE_bin hr q
theorem pf_cmp {op : CmpOp} {r : R2} {g : D → D → M D} (ho : OpR X (compareOp op) r) (hr : Ok2 C r g) (ha : PE X a (tE C W fa)) (hb : PE X b (tE C W fb)) (hm : behindInMarks op b = false) : PE X (.Compare a [op] [b] pos) (tE C W (cBin g fa fb)) :=
  pe_imp (pe_cmpR ho ha hb hm) fun _ _ _ q => tE_bin hr q
end

/-! ### a value as a test -/
def M.bool (d : D) : M Bool := match d with
  | .bl b => M.pure b
  | _ => M.no
def cTest (f : EF) : Env → M Bool := fun env => M.bind (f env) M.bool
end Fx
namespace Fx
open PySem PySem.Spec L2

/-! ### data that can be compared -/
mutual
def D.py : D → PyData
  | .bl b => .bool b
  | .int i => .int i
  | .str x => .str x
  | .tup ds => .tuple (D.pys ds)
  | .lst ds => .list (D.pys ds)
  | _ => .none
def D.pys : List D → List PyData
  | [] => []
  | d :: ds => d.py :: D.pys ds
end
mutual
def D.flat : D → Bool
  | .non => true
  | .bl _ => true
  | .int _ => true
  | .str _ => true
  | .tup ds => D.flats ds
  | .lst ds => D.flats ds
  | _ => false
def D.flats : List D → Bool
  | [] => true
  | d :: ds => d.flat && D.flats ds
end
def D.cmp (d : D) : Bool := d.flat && SeqAt.shaped d.py
section
variable {C : Cfg} {ρ : Zn} {H : Hp}
theorem Still.sqL {a : Addr} {vs : List V} (h : Still ρ H a (.lst vs) ∨ KL C.K a vs) : SqL C.K H a vs := h.elim (fun h => .inl h.2) .inr
theorem Still.sqT {a : Addr} {vs : List V} (h : Still ρ H a (.tup vs) ∨ KT C.K a vs) : SqT C.K H a vs := h.elim (fun h => .inl h.2) .inr
mutual
theorem Rep.dp : ∀ (d : D) {v : V}, d.flat = true → Rep C ρ H d v → Dp C.K H v d.py
  | .non, v, _, h => by cases (show v = .non from h); exact .non
  | .bl b, v, _, h => by cases (show v = .bl b from h); exact .bl b
  | .int i, v, _, h => by cases (show v = .int i from h); exact .int i
  | .str x, v, _, h => by cases (show v = .str x from h); exact .str x
  | .tup ds, v, f, ⟨a, vs, e, h, r⟩ => by
    subst e
    exact .tup (Still.sqT h) (Reps.dp ds (by simpa [D.flat] using f) r)
  | .lst ds, v, f, ⟨a, vs, e, h, r⟩ => by
    subst e
    exact .lst (Still.sqL h) (Reps.dp ds (by simpa [D.flat] using f) r)
  | .dic _ _, _, f, _ => by simp [D.flat] at f
  | .dct _ _, _, f, _ => by simp [D.flat] at f
  | .ins _ _ _, _, f, _ => by simp [D.flat] at f
  | .fn _, _, f, _ => by simp [D.flat] at f
  | .rng _, _, f, _ => by simp [D.flat] at f
  | .ref _, _, f, _ => by simp [D.flat] at f
theorem Reps.dp : ∀ (ds : List D) {vs : List V}, D.flats ds = true → Reps C ρ H ds vs → DpAll C.K H vs (D.pys ds)
  | [], vs, _, h => by
    have e : vs = [] := h
    subst e
    exact .nil
  | d :: ds, vs, f, ⟨v, r, e, h1, h2⟩ => by
    subst e
    have f' : d.flat = true ∧ D.flats ds = true := by simpa [D.flats] using f
    exact .cons (Rep.dp d f'.1 h1) (Reps.dp ds f'.2 h2)
end
theorem Seen.dp {d : D} {v : V} (f : d.flat = true) (h : Seen C ρ H d v) : Dp C.K H v d.py := by
  rcases h with h | ⟨a, e, h⟩
  · exact Rep.dp d f h
  · subst e
    cases d with
    | lst ds =>
      obtain ⟨vs, q, r⟩ := h
      exact .lst (.inl (.inl q)) (Reps.dp ds (by simpa [D.flat] using f) r)
    | dic ks ds => simp [D.flat] at f
    | dct ks ds => simp [D.flat] at f
    | ins c ns ds => simp [D.flat] at f
    | _ => exact (show False from h).elim
end

/-! ### the operators -/
def gAdd (x y : D) : M D := match x, y with
  | .int i, .int j => M.pure (.int (i + j))
  | .str a, .str b => fun _ w => if a.length + b.length ≤ sizeLine then .ok (.str (a ++ b)) w else .no
  | .tup a, .tup b => fun _ w => if a.length + b.length ≤ sizeLine then .ok (.tup (a ++ b)) w else .no
  | .lst a, .lst b => fun _ w => if a.length + b.length ≤ sizeLine then .ok (.lst (a ++ b)) w else .no
  | _, _ => M.no
def gSub (x y : D) : M D := match x, y with
  | .int i, .int j => M.pure (.int (i - j))
  | _, _ => M.no
def gMul (x y : D) : M D := match x, y with
  | .int i, .int j => fun _ w => if i.natAbs < 2 ^ 64 ∨ j.natAbs < 2 ^ 64 then .ok (.int (i * j)) w else .no
  | _, _ => M.no
def gDiv (x y : D) : M D := match x, y with
  | .int i, .int j => fun _ w => if 0 < j ∧ j.natAbs < 1073741824 then .ok (.int (i / j)) w else .no
  | _, _ => M.no
def gMod (x y : D) : M D := match x, y with
  | .int i, .int j => fun _ w => if 0 < j then .ok (.int (i % j)) w else .no
  | _, _ => M.no
def gLt (x y : D) : M D := match x, y with
  | .int i, .int j => M.pure (.bl (decide (i < j)))
  | _, _ => M.no
def gLe (x y : D) : M D := match x, y with
  | .int i, .int j => M.pure (.bl (decide (i ≤ j)))
  | _, _ => M.no
def gGt (x y : D) : M D := match x, y with
  | .int i, .int j => M.pure (.bl (decide (j < i)))
  | _, _ => M.no
def gGe (x y : D) : M D := match x, y with
  | .int i, .int j => M.pure (.bl (decide (j ≤ i)))
  | _, _ => M.no
def gEq (x y : D) : M D := fun _ w => if x.cmp && y.cmp then .ok (.bl (PyData.eqv x.py y.py)) w else .no
def gNe (x y : D) : M D := fun _ w => if x.cmp && y.cmp then .ok (.bl (!PyData.eqv x.py y.py)) w else .no
def D.isNon : D → Bool
  | .non => true
  | _ => false
def gIsN (x y : D) : M D := match y with
  | .non => M.pure (.bl x.isNon)
  | _ => M.no
def gNotN (x y : D) : M D := match y with
  | .non => M.pure (.bl (!x.isNon))
  | _ => M.no


abbrev cfg (X : Cx) : Cfg := ⟨X.K, X.mg, X.w⟩
section
variable {X : Cx} {pins : List (Addr × Obj)} {σ : L2.St} {H : Hp} {s : Shared}
/-- lists joined -/
def rCatL (K : PySem.W.Frag) : R2 := fun x y H Q => ∃ l b xs zs, x = .ref l ∧ y = .ref b ∧ SqL K H l xs ∧ SqL K H b zs ∧ xs.length + zs.length ≤ sizeLine ∧ ∀ p, H p = none → Q (.ref p) (upd H p (.lst (xs ++ zs)))
theorem op_catL : OpR X (binaryOp .Add) (rCatL X.K) := by
  intro pins s σ H x y v u Q I rx ry h
  obtain ⟨l, b, xs, zs, rfl, rfl, hH, hB, hz, q⟩ := h
  cases rx
  cases ry
  obtain ⟨its, r, pl, _⟩ := I.list hH
  obtain ⟨its2, r2, pl2, _⟩ := I.list hB
  obtain ⟨⟨cls, dd, data, sl⟩, ho, hc, n, hd⟩ := pl.isList
  obtain ⟨⟨cls2, dd2, data2, sl2⟩, ho2, hc2, n2, hd2⟩ := pl2.isList
  simp only at hc hd hc2 hd2
  subst hc hd hc2 hd2
  have h1 := r.length
  have h2 := r2.length
  have ea : its.toArray ++ its2.toArray = (its ++ its2).toArray := by simp
  refine concat_meets ⟨_, ho, rfl⟩ ⟨_, ho2, rfl⟩ noFill_list_add seq_list_add PySem.F.slot_list_add PySem.F.entry_list_add (PySem.F.args_list_add_2 _ _) (PyProof.Rows.list_addW l b its.toArray its2.toArray n n2 dd dd2 sl sl2 (by rw [List.size_toArray, List.size_toArray]; omega)) ⟨ho, ho2, ?_⟩
  rw [ea]
  exact ⟨.ref _, _, I.lnew (t' := s.toks) (r.append r2) (by rw [List.length_append]; omega), rfl, q _ I.fresh⟩

theorem opf_add : OpR X (binaryOp .Add) (fun x y H Q => (∃ i j, x = .int i ∧ y = .int j ∧ Q (.int (i + j)) H) ∨ (∃ i j, x = .str i ∧ y = .str j ∧ i.length + j.length ≤ sizeLine ∧ Q (.str (i ++ j)) H) ∨ rCatA X.K x y H Q ∨ rCatL X.K x y H Q) :=
  op_add.or (op_add_str.or (op_catA.or op_catL))
end

section
variable {C : Cfg}
theorem ok2_add : Ok2 C (fun x y H Q => (∃ i j, x = .int i ∧ y = .int j ∧ Q (.int (i + j)) H) ∨ (∃ i j, x = .str i ∧ y = .str j ∧ i.length + j.length ≤ sizeLine ∧ Q (.str (i ++ j)) H) ∨ rCatA C.K x y H Q ∨ rCatL C.K x y H Q) gAdd := by
  intro W σ ρ H ro w d e x y Q hS hd he q
  cases d with
  | int i =>
    cases e with
    | int j => exact .inl ⟨i, j, hd.int, he.int, ok_int hS q⟩
    | _ => exact (show False from q).elim
  | str a =>
    cases e with
    | str b =>
      unfold gAdd at q
      by_cases c : a.length + b.length ≤ sizeLine
      · simp only [if_pos c] at q
        exact .inr (.inl ⟨a, b, hd.str, he.str, c, ok_str hS q⟩)
      · simp only [if_neg c] at q
        exact (show False from q).elim
    | _ => exact (show False from q).elim
  | tup a =>
    cases e with
    | tup b =>
      unfold gAdd at q
      by_cases c : a.length + b.length ≤ sizeLine
      · simp only [if_pos c] at q
        obtain ⟨l, vs, rfl, h1, r1⟩ := hd.tup
        obtain ⟨m, us, rfl, h2, r2⟩ := he.tup
        refine .inr (.inr (.inl ⟨l, m, vs, us, rfl, rfl, h1, h2, by rw [← r1.len, ← r2.len]; exact c, fun z => ?_, fun _ z => ?_, fun _ _ => ok_tup hS (r1.append r2) q⟩))
        · have ea : a = [] := by
            cases a with
            | nil => rfl
            | cons _ _ =>
              have := r1.len
              rw [z] at this
              simp at this
          subst ea
          exact ok_same hS he.tupR q
        · have eb : b = [] := by
            cases b with
            | nil => rfl
            | cons _ _ =>
              have := r2.len
              rw [z] at this
              simp at this
          subst eb
          rw [List.append_nil] at q
          exact ok_same hS hd.tupR q
      · simp only [if_neg c] at q
        exact (show False from q).elim
    | _ => exact (show False from q).elim
  | lst a =>
    cases e with
    | lst b =>
      unfold gAdd at q
      by_cases c : a.length + b.length ≤ sizeLine
      · simp only [if_pos c] at q
        obtain ⟨l, vs, rfl, h1, r1⟩ := hd.lst
        obtain ⟨m, us, rfl, h2, r2⟩ := he.lst
        exact .inr (.inr (.inr ⟨l, m, vs, us, rfl, rfl, h1, h2, by rw [← r1.len, ← r2.len]; exact c, ok_lst hS (r1.append r2) q⟩))
      · simp only [if_neg c] at q
        exact (show False from q).elim
    | _ => exact (show False from q).elim
  | _ => exact (show False from q).elim

/-- ints in -/
theorem ok2_I0 {f : Int → Int → V} {g : D → D → M D} {k : Int → Int → D} (hg : ∀ d e, (∃ i j, d = .int i ∧ e = .int j ∧ g d e = M.pure (k i j)) ∨ g d e = M.no) (hk : ∀ i j ρ H, Rep C ρ H (k i j) (f i j)) : Ok2 C (rI0 f) g := by
  intro W σ ρ H ro w d e x y Q hS hd he q
  rcases hg d e with ⟨i, j, rfl, rfl, z⟩ | z
  · rw [z] at q
    exact ⟨i, j, hd.int, he.int, ok_same hS (hk i j ρ H) q⟩
  · rw [z] at q
    exact (show False from q).elim
theorem ok2_I {c : Int → Int → Prop} {f : Int → Int → V} {g : D → D → M D} {k : Int → Int → D} (hg : ∀ d e, (∃ i j, d = .int i ∧ e = .int j ∧ ((c i j ∧ g d e = M.pure (k i j)) ∨ g d e = M.no)) ∨ g d e = M.no) (hk : ∀ i j ρ H, Rep C ρ H (k i j) (f i j)) : Ok2 C (rI c f) g := by
  intro W σ ρ H ro w d e x y Q hS hd he q
  rcases hg d e with ⟨i, j, rfl, rfl, ⟨hc, z⟩ | z⟩ | z
  · rw [z] at q
    exact ⟨i, j, hd.int, he.int, hc, ok_same hS (hk i j ρ H) q⟩
  · rw [z] at q
    exact (show False from q).elim
  · rw [z] at q
    exact (show False from q).elim
theorem ok2_sub : Ok2 C (rI0 fun i j => .int (i - j)) gSub := ok2_I0 (k := fun i j => .int (i - j)) (fun d e => by cases d <;> cases e <;> first | exact .inr rfl | exact .inl ⟨_, _, rfl, rfl, rfl⟩) fun _ _ _ _ => rfl
theorem ok2_lt : Ok2 C (rI0 fun i j => .bl (decide (i < j))) gLt := ok2_I0 (k := fun i j => .bl (decide (i < j))) (fun d e => by cases d <;> cases e <;> first | exact .inr rfl | exact .inl ⟨_, _, rfl, rfl, rfl⟩) fun _ _ _ _ => rfl
theorem ok2_le : Ok2 C (rI0 fun i j => .bl (decide (i ≤ j))) gLe := ok2_I0 (k := fun i j => .bl (decide (i ≤ j))) (fun d e => by cases d <;> cases e <;> first | exact .inr rfl | exact .inl ⟨_, _, rfl, rfl, rfl⟩) fun _ _ _ _ => rfl
theorem ok2_gt : Ok2 C (rI0 fun i j => .bl (decide (j < i))) gGt := ok2_I0 (k := fun i j => .bl (decide (j < i))) (fun d e => by cases d <;> cases e <;> first | exact .inr rfl | exact .inl ⟨_, _, rfl, rfl, rfl⟩) fun _ _ _ _ => rfl
theorem ok2_mul : Ok2 C (rI CMul fun i j => .int (i * j)) gMul := ok2_I (k := fun i j => .int (i * j)) (fun d e => by
  cases d <;> cases e <;> first
    | exact .inr rfl
    | (rename_i i j
       by_cases c : i.natAbs < 2 ^ 64 ∨ j.natAbs < 2 ^ 64
       · exact .inl ⟨i, j, rfl, rfl, .inl ⟨by unfold CMul; omega, by funext ro w; unfold gMul M.pure; simp only [if_pos c]⟩⟩
       · exact .inl ⟨i, j, rfl, rfl, .inr (by funext ro w; unfold gMul M.no; simp only [if_neg c])⟩)) fun _ _ _ _ => rfl
theorem ok2_div : Ok2 C (rI CDiv fun i j => .int (i / j)) gDiv := ok2_I (k := fun i j => .int (i / j)) (fun d e => by
  cases d <;> cases e <;> first
    | exact .inr rfl
    | (rename_i i j
       by_cases c : 0 < j ∧ j.natAbs < 1073741824
       · exact .inl ⟨i, j, rfl, rfl, .inl ⟨by unfold CDiv; omega, by funext ro w; unfold gDiv M.pure; simp only [if_pos c]⟩⟩
       · exact .inl ⟨i, j, rfl, rfl, .inr (by funext ro w; unfold gDiv M.no; simp only [if_neg c])⟩)) fun _ _ _ _ => rfl
theorem ok2_mod : Ok2 C (rI (fun _ j => 0 < j) fun i j => .int (i % j)) gMod := ok2_I (k := fun i j => .int (i % j)) (fun d e => by
  cases d <;> cases e <;> first
    | exact .inr rfl
    | (rename_i i j
       by_cases c : 0 < j
       · exact .inl ⟨i, j, rfl, rfl, .inl ⟨c, by funext ro w; unfold gMod M.pure; simp only [if_pos c]⟩⟩
       · exact .inl ⟨i, j, rfl, rfl, .inr (by funext ro w; unfold gMod M.no; simp only [if_neg c])⟩)) fun _ _ _ _ => rfl
theorem ok2_eq : Ok2 C (rEqD C.K) gEq := by
  intro W σ ρ H ro w d e x y Q hS hd he q
  unfold gEq at q
  by_cases c : (d.cmp && e.cmp) = true
  · simp only [if_pos c] at q
    obtain ⟨c1, c2⟩ := Bool.and_eq_true_iff.mp c
    obtain ⟨f1, s1⟩ := Bool.and_eq_true_iff.mp c1
    obtain ⟨f2, s2⟩ := Bool.and_eq_true_iff.mp c2
    exact ⟨d.py, e.py, hd.dp f1, he.dp f2, s1, s2, ok_bl hS q⟩
  · simp only [if_neg c] at q
    exact (show False from q).elim
theorem ok2_ne : Ok2 C (rNeD C.K) gNe := by
  intro W σ ρ H ro w d e x y Q hS hd he q
  unfold gNe at q
  by_cases c : (d.cmp && e.cmp) = true
  · simp only [if_pos c] at q
    obtain ⟨c1, c2⟩ := Bool.and_eq_true_iff.mp c
    obtain ⟨f1, s1⟩ := Bool.and_eq_true_iff.mp c1
    obtain ⟨f2, s2⟩ := Bool.and_eq_true_iff.mp c2
    exact ⟨d.py, e.py, hd.dp f1, he.dp f2, s1, s2, ok_bl hS q⟩
  · simp only [if_neg c] at q
    exact (show False from q).elim
theorem Seen.isNon {ρ : Zn} {H : Hp} {d : D} {v : V} (h : Seen C ρ H d v) : decide (v = .non) = d.isNon := by
  have nr : ∀ a, decide (V.ref a = .non) = false := fun a => decide_eq_false fun z => nomatch z
  rcases h with h | ⟨a, rfl, h⟩
  · cases d with
    | non => rw [show v = .non from h]; rfl
    | bl b => rw [show v = .bl b from h]; rfl
    | int b => rw [show v = .int b from h]; rfl
    | str b => rw [show v = .str b from h]; rfl
    | tup ds => obtain ⟨a, vs, rfl, _⟩ := h; exact nr a
    | lst ds => obtain ⟨a, vs, rfl, _⟩ := h; exact nr a
    | dic ks ds => obtain ⟨a, vs, rfl, _⟩ := h; exact nr a
    | dct ks ds => obtain ⟨a, _, _, _, _, rfl, _⟩ := h; exact nr a
    | ins c ns ds => obtain ⟨a, _, _, _, rfl, _⟩ := h; exact nr a
    | fn x => obtain ⟨a, _, rfl⟩ := h; exact nr a
    | rng x => obtain ⟨a, rfl, _⟩ := h; exact nr a
    | ref n => obtain ⟨a, _, rfl⟩ := h; exact nr a
  · rw [nr]
    cases d with
    | non => exact (show False from h).elim
    | _ => rfl
theorem ok2_isN : Ok2 C (fun x y H Q => y = .non ∧ Q (.bl (decide (x = .non))) H) gIsN := by
  intro W σ ρ H ro w d e x y Q hS hd he q
  cases e with
  | non =>
    refine ⟨he.non, ?_⟩
    rw [hd.isNon]
    exact ok_bl hS q
  | _ => exact (show False from q).elim
end
end Fx
namespace Fx
open PySem PySem.Spec L2

section
variable {X : Cx} {C : Cfg} {W : WX} {pos p : Pos} {a b c e : Expr} {es : List Expr} {fa fb fc f : EF} {fs : Env → M (List D)}

/-! ### names, constants -/
def cVar (i : Nat) : EF := fun env _ w => match env[i]? with
  | some (some d) => .ok d w
  | _ => .no
theorem pf_var (i : Nat) {x : Str} (hN : X.N[i]? = some x := by rfl) (hv : Vis X.env.scope x := by first | exact Or.inl rfl | exact Or.inr (Or.inl rfl) | exact Or.inr (Or.inr rfl)) (hd : (x == ("__debug__" : Str)) = false := by decide)
    (hcd : (x == ("__classdict__" : Str)) = false := by decide) : PE X (.Name x pos) (tE C W (cVar i)) := pe_imp (pe_var hN hv hd hcd) fun σ H Q q => by
  obtain ⟨ρ, env, ro, w, hS, hE, q⟩ := q
  unfold cVar at q
  cases e : env[i]? with
  | none =>
    rw [e] at q
    exact (show False from q).elim
  | some o =>
    cases o with
    | none =>
      rw [e] at q
      exact (show False from q).elim
    | some d =>
      rw [e] at q
      obtain ⟨v, h1, h2⟩ := hE.at' i d e
      exact ⟨v, h1, ok_same hS h2 q⟩
def cK (d : D) : EF := fun _ => M.pure d
theorem pf_int {i j} : PE X (.Constant (.int i) j pos) (tE C W (cK (.int i))) := pe_imp pe_int fun σ H Q ⟨ρ, env, ro, w, hS, hE, q⟩ => ok_int hS q
theorem pf_bl {i j} : PE X (.Constant (.bool i) j pos) (tE C W (cK (.bl i))) := pe_imp pe_bl fun σ H Q ⟨ρ, env, ro, w, hS, hE, q⟩ => ok_bl hS q
theorem pf_str {i j} : PE X (.Constant (.str i) j pos) (tE C W (cK (.str i))) := pe_imp pe_str fun σ H Q ⟨ρ, env, ro, w, hS, hE, q⟩ => ok_str hS q
theorem pf_non {j} : PE X (.Constant .none j pos) (tE C W (cK .non)) := pe_imp pe_non fun σ H Q ⟨ρ, env, ro, w, hS, hE, q⟩ => ok_non hS q
/-- a constant of the module -/
def GK (C : Cfg) (x : Str) (d : D) : Prop := ∃ v u, C.mg x = some u ∧ RelV v u ∧ ∀ ρ H, Rep C ρ H d v
theorem pf_glob {x : Str} {d : D} (hg : Gl X x) (k : GK (cfg X) x d) (hd : (x == ("__debug__" : Str)) = false := by decide) : PE X (.Name x pos) (tE (cfg X) W (cK d)) := by
  obtain ⟨v, u, hm, r, h⟩ := k
  exact pe_imp (pe_glob hg hm r hd) fun σ H Q ⟨ρ, env, ro, w, hS, hE, q⟩ => ok_same hS (h ρ H) q

/-! ### arguments -/
def cArgs : List EF → Env → M (List D)
  | [] => fun _ => M.pure []
  | f :: r => fun env => M.bind (f env) fun d => M.bind (cArgs r env) fun ds => M.pure (d :: ds)
theorem cArgs_len : ∀ (fs : List EF) {env : Env} {ro w w' : List D} {ds : List D}, cArgs fs env ro w = .ok ds w' → ds.length = fs.length
  | [], env, ro, w, w', ds, h => by
    cases (show (Out.ok [] w : Out (List D)) = .ok ds w' from h)
    rfl
  | f :: r, env, ro, w, w', ds, h => by
    unfold cArgs M.bind at h
    cases e : f env ro w with
    | ok d w1 =>
      rw [e] at h
      cases e2 : cArgs r env ro w1 with
      | ok ds2 w2 =>
        simp only [e2] at h
        cases (show (Out.ok (d :: ds2) w2 : Out (List D)) = .ok ds w' from h)
        rw [List.length_cons, List.length_cons, cArgs_len r e2]
      | exn c ns xs w2 =>
        simp only [e2] at h
        cases h
      | no =>
        simp only [e2] at h
        cases h
    | exn c ns xs w2 =>
      rw [e] at h
      cases h
    | no =>
      rw [e] at h
      cases h
theorem pfa_nil : PA X [] (tA C W (cArgs [])) := pa_imp pa_nil fun σ H Q ⟨ρ, env, ro, w, hS, hE, q⟩ => q [] ρ H .refl hS rfl
theorem pfa_cons {gs : List EF} (ha : PE X e (tE C W f)) (hr : PA X es (tA C W (cArgs gs))) (hs : starEach (e :: es) X.env = (false, eval e X.env) :: starEach es X.env := by rfl) : PA X (e :: es) (tA C W (cArgs (f :: gs))) :=
  pa_imp (pa_cons ha hr hs) fun σ H Q ⟨ρ, env, ro, w, hS, hE, q⟩ => by
    refine tR_seq (g := fun d => M.bind (cArgs gs env) fun ds => M.pure (d :: ds)) hS hE q fun d w1 v ρ1 H1 x1 s1 r1 q1 => ?_
    refine tR_seq s1 (hE.ext x1) q1 fun ds w2 vs ρ2 H2 x2 s2 r2 q2 => ?_
    exact q2 (v :: vs) ρ2 H2 .refl s2 ⟨v, vs, rfl, Rep.ext x2 d r1, r2⟩

/-! ### built-ins by name -/
def OkL (C : Cfg) (r : List V → Hp → VK → Prop) (g : List D → M D) : Prop :=
  ∀ (W : WX) (σ : L2.St) (ρ : Zn) (H : Hp) (ro w : List D) (ds : List D) (xs : List V) (Q : VK), RepS C ρ H (ro ++ w) → Reps C ρ H ds xs → AfterR C (Rep C) W σ ρ H ro (g ds ro w) Q → r xs H Q
def Ok1 (C : Cfg) (r : List V → Hp → VK → Prop) (g : D → M D) : Prop :=
  ∀ (W : WX) (σ : L2.St) (ρ : Zn) (H : Hp) (ro w : List D) (d : D) (x : V) (Q : VK), RepS C ρ H (ro ++ w) → Seen C ρ H d x → AfterR C (Rep C) W σ ρ H ro (g d ro w) Q → r [x] H Q
def one (g : D → M D) : List D → M D
  | [d] => M.bind (M.see d) g
  | _ => M.no
theorem okL_one {r : List V → Hp → VK → Prop} {g : D → M D} (h : Ok1 C r g) : OkL C r (one g) := by
  intro W σ ρ H ro w ds xs Q hS hR q
  cases ds with
  | nil => exact (show False from q).elim
  | cons d ds =>
    cases ds with
    | cons _ _ => exact (show False from q).elim
    | nil =>
      obtain ⟨v, r', rfl, h1, h2⟩ := hR
      cases (show r' = [] from h2)
      exact h W σ ρ H ro w _ v Q hS (seen_of hS h1) q
def cCall (g : List D → M D) (fs : Env → M (List D)) : EF := fun env => M.bind (fs env) g
theorem tE_call {r : List V → Hp → VK → Prop} {g : List D → M D} (hr : OkL C r g) {σ : L2.St} {H : Hp} {Q : VK} (q : tE C W (cCall g fs) σ H Q) : tCB r (tA C W fs) σ H Q := by
  obtain ⟨ρ, env, ro, w, hS, hE, q⟩ := q
  exact tR_seq hS hE q fun ds w1 vs ρ1 H1 x1 s1 r1 q1 => hr W σ ρ1 H1 ro w1 ds vs Q s1 r1 q1
theorem pf_callB {id : String} {x : Str} {r : List V → Hp → VK → Prop} {g : List D → M D} (hc : CallR X (.builtin id) r) (hr : OkL C r g) (hg : Gl X x) (hm : X.mg x = none) (hv : bootBuiltins x = some (.builtin id)) (ha : PA X (e :: es) (tA C W fs))
    (hn : x ≠ "__name__" := by decide) (hdb : (x == ("__debug__" : Str)) = false := by decide) (he : starEach (e :: es) X.env = (false, eval e X.env) :: starEach es X.env := by rfl) (hpl : (backTo pos (starEach es X.env)).any (·.1) = false := by rfl) :
    PE X (.Call (.Name x p) (e :: es) [] pos) (tE C W (cCall g fs)) := pe_imp (pe_callB hc hg hm hv ha hn hdb he hpl) fun _ _ _ q => tE_call hr q
theorem pf_callTy {T : String} {x : Str} {r : List V → Hp → VK → Prop} {g : List D → M D} (hc : CallR X (.type T) r) (hr : OkL C r g) (hg : Gl X x) (hm : X.mg x = none) (hv : bootBuiltins x = some (.type T)) (ha : PA X (e :: es) (tA C W fs))
    (hn : x ≠ "__name__" := by decide) (hdb : (x == ("__debug__" : Str)) = false := by decide) (he : starEach (e :: es) X.env = (false, eval e X.env) :: starEach es X.env := by rfl) (hpl : (backTo pos (starEach es X.env)).any (·.1) = false := by rfl) :
    PE X (.Call (.Name x p) (e :: es) [] pos) (tE C W (cCall g fs)) := pe_imp (pe_callTy hc hg hm hv ha hn hdb he hpl) fun _ _ _ q => tE_call hr q

def rLen (K : PySem.W.Frag) : List V → Hp → VK → Prop := fun xs H Q => (∃ p ys, xs = [.ref p] ∧ (SqL K H p ys ∨ SqT K H p ys) ∧ Q (.int ys.length) H) ∨ (∃ z, xs = [.str z] ∧ z.length ≤ sizeLine ∧ Q (.int z.length) H) ∨ (∃ a kvs, xs = [V.ref a] ∧ H a = some (.dK kvs) ∧ Q (.int kvs.length) H)
theorem cf_len : CallR X (.builtin "len") (rLen X.K) := call_len_seq.or (call_len_str.or call_lenD)
def gLen : D → M D
  | .str x => fun _ w => if x.length ≤ sizeLine then .ok (.int x.length) w else .no
  | .tup ds => M.pure (.int ds.length)
  | .lst ds => M.pure (.int ds.length)
  | _ => M.no
theorem ok_len : Ok1 C (rLen C.K) gLen := by
  intro W σ ρ H ro w d x Q hS hd q
  cases d with
  | str z =>
    unfold gLen at q
    by_cases c : z.length ≤ sizeLine
    · simp only [if_pos c] at q
      exact .inr (.inl ⟨z, by rw [hd.str], c, ok_int hS q⟩)
    · simp only [if_neg c] at q
      exact (show False from q).elim
  | tup ds =>
    obtain ⟨a, vs, rfl, h, r⟩ := hd.tup
    refine .inl ⟨a, vs, rfl, .inr h, ?_⟩
    rw [← r.len]
    exact ok_int hS q
  | lst ds =>
    obtain ⟨a, vs, rfl, h, r⟩ := hd.lst
    refine .inl ⟨a, vs, rfl, .inl h, ?_⟩
    rw [← r.len]
    exact ok_int hS q
  | _ => exact (show False from q).elim
def rInt1 : List V → Hp → VK → Prop := fun xs H Q => (∃ i, xs = [.int i] ∧ Q (.int i) H) ∨ ∃ k, xs = [.bl k] ∧ Q (.int (if k then 1 else 0)) H
theorem cf_int : CallR X (.type "int") rInt1 := call_int1
def gInt : D → M D
  | .int i => M.pure (.int i)
  | .bl k => M.pure (.int (if k then 1 else 0))
  | _ => M.no
theorem ok_int1 : Ok1 C rInt1 gInt := by
  intro W σ ρ H ro w d x Q hS hd q
  cases d with
  | int i => exact .inl ⟨i, by rw [hd.int], ok_int hS q⟩
  | bl k => exact .inr ⟨k, by rw [hd.bl], ok_int hS q⟩
  | _ => exact (show False from q).elim
def rList (K : PySem.W.Frag) : List V → Hp → VK → Prop := fun xs H Q => ∃ p ys, xs = [.ref p] ∧ (SqL K H p ys ∨ SqT K H p ys) ∧ ∀ l, H l = none → Q (.ref l) (upd H l (.lst ys))
theorem cf_list : CallR X (.type "list") (rList X.K) := call_list_of
def gList : D → M D
  | .tup ds => M.pure (.lst ds)
  | .lst ds => M.pure (.lst ds)
  | _ => M.no
/-- a list that may change -/
def mNew (o : D) : M D := fun ro w => .ok (.ref (ro ++ w).length) (w ++ [o])
def gListM : D → M D
  | .tup ds => mNew (.lst ds)
  | .lst ds => mNew (.lst ds)
  | _ => M.no
theorem ok_list : Ok1 C (rList C.K) gList := by
  intro W σ ρ H ro w d x Q hS hd q
  cases d with
  | tup ds =>
    obtain ⟨a, vs, rfl, h, r⟩ := hd.tup
    exact ⟨a, vs, rfl, .inr h, ok_lst hS r q⟩
  | lst ds =>
    obtain ⟨a, vs, rfl, h, r⟩ := hd.lst
    exact ⟨a, vs, rfl, .inl h, ok_lst hS r q⟩
  | _ => exact (show False from q).elim
def rTuple (K : PySem.W.Frag) : List V → Hp → VK → Prop := fun xs H Q => ∃ p ys, xs = [.ref p] ∧ ((SqL K H p ys ∧ ∀ l, H l = none → Q (.ref l) (upd H l (.tup ys))) ∨ (SqT K H p ys ∧ Q (.ref p) H))
theorem cf_tuple : CallR X (.type "tuple") (rTuple X.K) := call_tuple_of
def gTuple : D → M D
  | .tup ds => M.pure (.tup ds)
  | .lst ds => M.pure (.tup ds)
  | _ => M.no
theorem ok_tuple : Ok1 C (rTuple C.K) gTuple := by
  intro W σ ρ H ro w d x Q hS hd q
  cases d with
  | tup ds =>
    obtain ⟨a, vs, rfl, h, r⟩ := hd.tup
    exact ⟨a, vs, rfl, .inr ⟨h, ok_same hS hd.tupR q⟩⟩
  | lst ds =>
    obtain ⟨a, vs, rfl, h, r⟩ := hd.lst
    exact ⟨a, vs, rfl, .inl ⟨h, ok_tup hS r q⟩⟩
  | _ => exact (show False from q).elim

/-! ### isinstance -/
inductive Ty where
  | non | bl | int | str | tup | lst | dic
  deriving DecidableEq
def Ty.name : Ty → String
  | .non => "NoneType" | .bl => "bool" | .int => "int" | .str => "str" | .tup => "tuple" | .lst => "list" | .dic => "dict"
def isTy : Ty → Ty → Bool
  | .bl, .int => true
  | a, b => decide (a = b)
theorem isTy_ok : ∀ a b : Ty, kitB a.name b.name = some (isTy a b) := by
  intro a b
  cases a <;> cases b <;> decide +kernel
def D.ty? : D → Option Ty
  | .non => some .non | .bl _ => some .bl | .int _ => some .int | .str _ => some .str | .tup _ => some .tup | .lst _ => some .lst | .dic _ _ => some .dic
  | _ => none
theorem Seen.tyx {ρ : Zn} {H : Hp} {d : D} {v : V} {t : Ty} (h : Seen C ρ H d v) (e : d.ty? = some t) : TyX C.K H v (.type t.name) := by
  cases d with
  | non => cases e; rw [h.non]; exact .base .non
  | bl b => cases e; rw [h.bl]; exact .base (.bl b)
  | int b => cases e; rw [h.int]; exact .base (.int b)
  | str b => cases e; rw [h.str]; exact .base (.str b)
  | tup ds =>
    cases e
    rcases h with ⟨a, vs, rfl, h | h, _⟩ | ⟨a, _, h⟩
    · rcases h.2 with h | ⟨o, h⟩
      · exact .base (.tup h)
      · exact .fTuple h
    · obtain ⟨o, its, n, hk, hc, _⟩ := h
      exact .kTuple hk hc
    · exact (show False from h).elim
  | lst ds =>
    cases e
    obtain ⟨a, vs, rfl, h, _⟩ := h.lst
    rcases h with (h | ⟨o, h⟩) | ⟨o, its, n, hk, hc, _⟩
    · exact .base (.lst h)
    · exact .base (.frz h)
    · exact .kList hk hc
  | dic ks ds =>
    cases e
    obtain ⟨a, vs, rfl, h, _⟩ := h.dic
    rcases h with h | ⟨o, h⟩
    · exact .base (.dK h)
    · exact .fDict h
  | _ => cases e
def gIsi (t : Ty) (d : D) : M D := match d.ty? with
  | some a => M.pure (.bl (isTy a t))
  | none => M.no
def cIsi (t : Ty) (f : EF) : EF := fun env => M.bind (f env) fun d => M.bind (M.see d) (gIsi t)
theorem pf_isi (t : Ty) {x : Str} {q : Pos} (hg : Gl X "isinstance") (hm : X.mg "isinstance" = none) (hgT : Gl X x) (hmT : X.mg x = none) (hvT : bootBuiltins x = some (.type t.name)) (ha : PE X a (tE (cfg X) W fa))
    (hnT : x ≠ "__name__" := by decide) (hdT : (x == ("__debug__" : Str)) = false := by decide) (hs1 : starEach [a, .Name x q] X.env = (false, eval a X.env) :: starEach [.Name x q] X.env := by rfl) (hpl : (backTo pos (starEach [.Name x q] X.env)).any (·.1) = false := by rfl) :
    PE X (.Call (.Name "isinstance" p) [a, .Name x q] [] pos) (tE (cfg X) W (cIsi t fa)) := by
  refine pe_imp (pe_callB call_isi hg hm PyProof.Rows.boot_isinstance (pa_cons ha (pa_cons (pe_bltn (v := .ty t.name) hgT hmT hvT rfl hnT hdT) pa_nil) hs1) (by decide) (by decide) hs1 hpl) fun σ H Q ⟨ρ, env, ro, w, hS, hE, q⟩ => ?_
  refine tR_seq hS hE q fun d w1 v ρ1 H1 x1 s1 r1 q1 => ?_
  replace q1 : AfterR (cfg X) (Rep (cfg X)) W σ ρ1 H1 ro (gIsi t (see ro w1 d) ro w1) Q := q1
  unfold gIsi at q1
  cases ht : (see ro w1 d).ty? with
  | none =>
    rw [ht] at q1
    exact (show False from q1).elim
  | some u =>
    rw [ht] at q1
    exact ⟨v, .ty t.name, .type u.name, .type t.name, isTy u t, rfl, .ty _, (seen_of s1 r1).tyx ht, kit_ty (isTy_ok u t), ok_bl s1 q1⟩

/-! ### subscripts, slices -/
def gIx (x y : D) : M D := match x, y with
  | .tup ds, .int i => fun _ w => match atI ds i with
    | some d => .ok d w
    | none => .no
  | .lst ds, .int i => fun _ w => match atI ds i with
    | some d => .ok d w
    | none => .no
  | .str z, .int i => fun _ w => if z.length ≤ sizeLine then (match atI z.cps.toList i with
    | some c => .ok (.str ⟨#[c]⟩) w
    | none => .no) else .no
  | _, _ => M.no
theorem Reps.atI {ρ : Zn} {H : Hp} {ds : List D} {vs : List V} {i : Int} {d : D} (r : Reps C ρ H ds vs) (h : L2.atI ds i = some d) : ∃ v, L2.atI vs i = some v ∧ Rep C ρ H d v := by
  unfold L2.atI at h ⊢
  rw [r.len] at h
  cases e : ixN vs.length i with
  | none =>
    rw [e] at h
    cases h
  | some j =>
    rw [e] at h
    exact r.get h
theorem ok2_ix : Ok2 C (rIx C.K) gIx := by
  intro W σ ρ H ro w d e x y Q hS hd he q
  cases d with
  | tup ds =>
    cases e with
    | int i =>
      unfold gIx at q
      cases ht : L2.atI ds i with
      | none =>
        simp only [ht] at q
        exact (show False from q).elim
      | some d' =>
        simp only [ht] at q
        obtain ⟨a, vs, rfl, h, r⟩ := hd.tup
        obtain ⟨v, h1, h2⟩ := r.atI ht
        exact .inr (.inl ⟨a, vs, i, v, rfl, he.int, h, h1, ok_same hS h2 q⟩)
    | _ => exact (show False from q).elim
  | lst ds =>
    cases e with
    | int i =>
      unfold gIx at q
      cases ht : L2.atI ds i with
      | none =>
        simp only [ht] at q
        exact (show False from q).elim
      | some d' =>
        simp only [ht] at q
        obtain ⟨a, vs, rfl, h, r⟩ := hd.lst
        obtain ⟨v, h1, h2⟩ := r.atI ht
        exact .inl ⟨a, vs, i, v, rfl, he.int, h, h1, ok_same hS h2 q⟩
    | _ => exact (show False from q).elim
  | str z =>
    cases e with
    | int i =>
      unfold gIx at q
      by_cases c : z.length ≤ sizeLine
      · simp only [if_pos c] at q
        cases ht : L2.atI z.cps.toList i with
        | none =>
          simp only [ht] at q
          exact (show False from q).elim
        | some d' =>
          simp only [ht] at q
          exact .inr (.inr ⟨z, i, d', hd.str, he.int, c, ht, ok_str hS q⟩)
      · simp only [if_neg c] at q
        exact (show False from q).elim
    | _ => exact (show False from q).elim
  | _ => exact (show False from q).elim
theorem pf_ix (ha : PE X a (tE (cfg X) W fa)) (hb : PE X b (tE (cfg X) W fb)) (hs : PlainIx b) : PE X (.Subscript a b pos) (tE (cfg X) W (cBin gIx fa fb)) := pe_imp (pe_ix ix_seq ha hb hs) fun _ _ _ q => tE_bin ok2_ix q

abbrev RO : Zn → Hp → Option Int → Option Int → Prop := fun _ _ a b => a = b
abbrev tO (C : Cfg) (W : WX) (f : Env → M (Option Int)) : L2.St → Hp → (Option Int → Hp → Prop) → Prop := tR C RO W f
def cNoPart : Env → M (Option Int) := fun _ => M.pure none
def cPart (f : EF) : Env → M (Option Int) := fun env => M.bind (f env) fun d => match d with
  | .int i => M.pure (some i)
  | _ => M.no
theorem pfo_none : PO X none (tO C W cNoPart) := ⟨fun pins s σ H Q I q => po_none.run pins s σ H Q I (by
  obtain ⟨ρ, env, ro, w, hS, hE, q⟩ := q
  exact q none ρ H .refl hS rfl)⟩
theorem pfo_some (h : PE X e (tE C W f)) : PO X (some e) (tO C W (cPart f)) := ⟨fun pins s σ H Q I q => (po_some h).run pins s σ H Q I (by
  obtain ⟨ρ, env, ro, w, hS, hE, q⟩ := q
  refine tR_seq hS hE q fun d w1 v ρ1 H1 x1 s1 r1 q1 => ?_
  cases d with
  | int i => exact ⟨i, r1, q1 (some i) ρ1 H1 .refl s1 rfl⟩
  | _ => exact (show False from q1).elim)⟩
def cut {α : Type} (xs : List α) (lo hi : Option Int) : List α := (xs.drop (HT.sIx xs.length 0 lo)).take (HT.sIx xs.length xs.length hi - HT.sIx xs.length 0 lo)
def gSl (x : D) (lo hi : Option Int) : M D := match x with
  | .lst ds => M.pure (.lst (cut ds lo hi))
  | .tup ds => M.pure (.tup (cut ds lo hi))
  | .str z => fun _ w => if z.length ≤ sizeLine then .ok (.str (cutS z lo hi)) w else .no
  | _ => M.no
def rSl (K : PySem.W.Frag) : V → Option Int → Option Int → Hp → VK → Prop := fun x lo hi H Q => rSlL K x lo hi H Q ∨ rSlA K x lo hi H Q ∨ rSlS x lo hi H Q
theorem sf_sl : SlR X (rSl X.K) := sl_list.or (sl_tupA.or sl_str)
def cSl (f : EF) (lo hi : Env → M (Option Int)) : EF := fun env => M.bind (f env) fun d => M.bind (lo env) fun i => M.bind (hi env) fun j => M.bind (M.see d) fun d' => gSl d' i j
theorem Reps.cut {ρ : Zn} {H : Hp} {ds : List D} {vs : List V} {lo hi : Option Int} (r : Reps C ρ H ds vs) : Reps C ρ H (cut ds lo hi) (cutV vs lo hi) := by
  unfold Fx.cut cutV
  rw [r.len]
  exact (r.drop _).take _
theorem cut_whole {α : Type} {xs : List α} {lo hi : Option Int} (h : HT.sIx xs.length 0 lo = 0 ∧ HT.sIx xs.length xs.length hi = xs.length) : cut xs lo hi = xs := by
  unfold cut
  rw [h.1, h.2, Nat.sub_zero, List.drop_zero]
  exact List.take_length
theorem pf_sl {lo hi : Option Expr} {p2 : Pos} {fl fh : Env → M (Option Int)} (ha : PE X a (tE (cfg X) W fa)) (hl : PO X lo (tO (cfg X) W fl)) (hh : PO X hi (tO (cfg X) W fh)) : PE X (.Subscript a (.Slice lo hi none p2) pos) (tE (cfg X) W (cSl fa fl fh)) := by
  refine pe_imp (pe_slice sf_sl ha hl hh) fun σ H Q ⟨ρ, env, ro, w, hS, hE, q⟩ => ?_
  refine tR_seq hS hE q fun d w1 v ρ1 H1 x1 s1 r1 q1 => ?_
  refine tR_seq s1 (hE.ext x1) q1 fun i w2 i' ρ2 H2 x2 s2 ei q2 => ?_
  refine tR_seq s2 ((hE.ext x1).ext x2) q2 fun j w3 j' ρ3 H3 x3 s3 ej q3 => ?_
  cases ei
  cases ej
  have sd := seen_of s3 (Rep.ext x3 d (Rep.ext x2 d r1))
  replace q3 : AfterR (cfg X) (Rep (cfg X)) W σ ρ3 H3 ro (gSl (see ro w3 d) i j ro w3) Q := q3
  generalize see ro w3 d = d3 at sd q3
  cases d3 with
  | lst ds =>
    obtain ⟨a, vs, rfl, h, r⟩ := sd.lst
    exact .inl ⟨a, vs, rfl, h, ok_lst s3 r.cut q3⟩
  | tup ds =>
    obtain ⟨a, vs, rfl, h, r⟩ := sd.tup
    refine .inr (.inl ⟨a, vs, rfl, h, fun z => ?_, fun z => ok_tup s3 r.cut q3⟩)
    have z' : HT.sIx ds.length 0 i = 0 ∧ HT.sIx ds.length ds.length j = ds.length := by
      rw [r.len]
      exact z
    unfold gSl at q3
    simp only [cut_whole z'] at q3
    exact ok_same s3 sd.tupR q3
  | str z =>
    unfold gSl at q3
    by_cases c : z.length ≤ sizeLine
    · simp only [if_pos c] at q3
      exact .inr (.inr ⟨z, sd.str, c, ok_str s3 q3⟩)
    · simp only [if_neg c] at q3
      exact (show False from q3).elim
  | _ => exact (show False from q3).elim

/-! ### displays -/
def cTup (fs : Env → M (List D)) : EF := fun env => M.bind (fs env) fun ds => M.pure (.tup ds)
def cLst (fs : Env → M (List D)) : EF := fun env => M.bind (fs env) fun ds => M.pure (.lst ds)
def cLstM (fs : Env → M (List D)) : EF := fun env => M.bind (fs env) fun ds => mNew (.lst ds)
theorem tE_disp {g : List D → M D} {gs : List EF} {σ : L2.St} {H : Hp} {Q : VK} {K : List V → Hp → Prop} (q : tE C W (fun env => M.bind (cArgs gs env) g) σ H Q)
    (k : ∀ ds w1 vs ρ1 H1 ro, ds.length = gs.length → RepS C ρ1 H1 (ro ++ w1) → Reps C ρ1 H1 ds vs → AfterR C (Rep C) W σ ρ1 H1 ro (g ds ro w1) Q → K vs H1) : tA C W (cArgs gs) σ H K := by
  obtain ⟨ρ, env, ro, w, hS, hE, q⟩ := q
  replace q : AfterR C (Rep C) W σ ρ H ro (M.bind (cArgs gs env) g ro w) Q := q
  unfold M.bind at q
  refine ⟨ρ, env, ro, w, hS, hE, ?_⟩
  cases e : cArgs gs env ro w with
  | ok d w1 =>
    rw [e] at q
    exact fun v ρ1 H1 x s r => k d w1 v ρ1 H1 ro (cArgs_len gs e) s r (AfterR.ext x q)
  | exn c ns xs w1 =>
    rw [e] at q
    exact q
  | no =>
    rw [e] at q
    exact q
theorem pf_tup {k} {gs : List EF} (h : PA X es (tA C W (cArgs gs))) (hl : gs.length ≤ 1000 := by exact Nat.le_of_ble_eq_true rfl) : PE X (.Tuple es k pos) (tE C W (cTup (cArgs gs))) := pe_imp (pe_tup h) fun σ H Q q =>
  tE_disp q fun ds w1 vs ρ1 H1 ro e s r q1 => ⟨by rw [← r.len, e]; exact Nat.le_of_lt (small1000 hl), ok_tup s r q1⟩
theorem pf_lst {gs : List EF} (h : PA X es (tA C W (cArgs gs))) (hl : gs.length ≤ 1000 := by exact Nat.le_of_ble_eq_true rfl) : PE X (.List es pos) (tE C W (cLst (cArgs gs))) := pe_imp (pe_lst h) fun σ H Q q =>
  tE_disp q fun ds w1 vs ρ1 H1 ro e s r q1 => ⟨by rw [← r.len, e]; exact Nat.le_of_lt (small1000 hl), ok_lst s r q1⟩
theorem pf_lstM {gs : List EF} (h : PA X es (tA C W (cArgs gs))) (hl : gs.length ≤ 1000 := by exact Nat.le_of_ble_eq_true rfl) : PE X (.List es pos) (tE C W (cLstM (cArgs gs))) := pe_imp (pe_lst h) fun σ H Q q =>
  tE_disp q fun ds w1 vs ρ1 H1 ro e s r q1 => ⟨by rw [← r.len, e]; exact Nat.le_of_lt (small1000 hl), ok_newL s r q1⟩

/-! ### and, or, not, if -/
def cAnd (fa fb : EF) : EF := fun env => M.bind (fa env) fun d => match d with
  | .bl true => fb env
  | .bl false => M.pure (.bl false)
  | _ => M.no
def cOr (fa fb : EF) : EF := fun env => M.bind (fa env) fun d => match d with
  | .bl true => M.pure (.bl true)
  | .bl false => fb env
  | _ => M.no
def cNot (fa : EF) : EF := fun env => M.bind (fa env) fun d => match d with
  | .bl b => M.pure (.bl (!b))
  | _ => M.no
variable {rest : List Expr}
theorem pf_one {op} (h : PE X a (tE C W fa)) : PE X (.BoolOp op [a] pos) (tE C W fa) := pe_one h
theorem pf_and (ha : PE X a (tE C W fa)) (hb : PE X (.BoolOp .And (b :: rest) pos) (tE C W fb)) : PE X (.BoolOp .And (a :: b :: rest) pos) (tE C W (cAnd fa fb)) := pe_imp (pe_and ha hb) fun σ H Q ⟨ρ, env, ro, w, hS, hE, q⟩ => by
  refine tR_seq hS hE q fun d w1 v ρ1 H1 x1 s1 r1 q1 => ?_
  cases d with
  | bl k =>
    refine ⟨k, r1, ?_⟩
    cases k with
    | true => exact ⟨ρ1, env, ro, w1, s1, hE.ext x1, q1⟩
    | false => exact ok_bl s1 q1
  | _ => exact (show False from q1).elim
theorem pf_or (ha : PE X a (tE C W fa)) (hb : PE X (.BoolOp .Or (b :: rest) pos) (tE C W fb)) : PE X (.BoolOp .Or (a :: b :: rest) pos) (tE C W (cOr fa fb)) := pe_imp (pe_or ha hb) fun σ H Q ⟨ρ, env, ro, w, hS, hE, q⟩ => by
  refine tR_seq hS hE q fun d w1 v ρ1 H1 x1 s1 r1 q1 => ?_
  cases d with
  | bl k =>
    refine ⟨k, r1, ?_⟩
    cases k with
    | true => exact ok_bl s1 q1
    | false => exact ⟨ρ1, env, ro, w1, s1, hE.ext x1, q1⟩
  | _ => exact (show False from q1).elim
theorem pf_not (ha : PE X a (tE C W fa)) : PE X (.UnaryOp .Not a pos) (tE C W (cNot fa)) := pe_imp (pe_not ha) fun σ H Q ⟨ρ, env, ro, w, hS, hE, q⟩ => by
  refine tR_seq hS hE q fun d w1 v ρ1 H1 x1 s1 r1 q1 => ?_
  cases d with
  | bl k => exact ⟨k, r1, ok_bl s1 q1⟩
  | _ => exact (show False from q1).elim
def gNeg : D → M D
  | .int i => M.pure (.int (-i))
  | _ => M.no
def cUn (g : D → M D) (f : EF) : EF := fun env => M.bind (f env) g
theorem pf_neg (ha : PE X a (tE C W fa)) : PE X (.UnaryOp .USub a pos) (tE C W (cUn gNeg fa)) := pe_imp (pe_un un_neg ha) fun σ H Q ⟨ρ, env, ro, w, hS, hE, q⟩ => by
  refine tR_seq hS hE q fun d w1 v ρ1 H1 x1 s1 r1 q1 => ?_
  cases d with
  | int i => exact ⟨i, r1, ok_int s1 q1⟩
  | _ => exact (show False from q1).elim

/-! tests -/
def cNotT (f : Env → M Bool) : Env → M Bool := fun env => M.bind (f env) fun b => M.pure (!b)
def cAndT (f g : Env → M Bool) : Env → M Bool := fun env => M.bind (f env) fun b => if b = true then g env else M.pure false
def cOrT (f g : Env → M Bool) : Env → M Bool := fun env => M.bind (f env) fun b => if b = true then M.pure true else g env
variable {ta tb : Env → M Bool}
theorem pt_cmpF {op : CmpOp} {r : R2} {g : D → D → M D} (ho : OpR X (compareOp op) r) (hr : Ok2 C r g) (ha : PE X a (tE C W fa)) (hb : PE X b (tE C W fb)) (hm : behindInMarks op b = false) : PT X (.Compare a [op] [b] pos) (tT C W (cTest (cBin g fa fb))) :=
  pt_imp (pt_cmpR ho ha hb hm) fun σ H Q ⟨ρ, env, ro, w, hS, hE, q⟩ => by
    refine tE_bin hr ⟨ρ, env, ro, w, hS, hE, ?_⟩
    unfold cTest M.bind at q
    cases e : cBin g fa fb env ro w with
    | ok d w1 =>
      rw [e] at q
      intro v ρ1 H1 x1 s1 r1
      cases d with
      | bl k => exact ⟨k, r1, q k ρ1 H1 x1 s1 rfl⟩
      | _ => exact (show False from q).elim
    | exn c ns xs w1 =>
      rw [e] at q
      exact q
    | no =>
      rw [e] at q
      exact q
/-- any other test: a truth value -/
def M.truth : D → M Bool
  | .bl b => M.pure b
  | .non => M.pure false
  | .int i => M.pure (i != 0)
  | .lst ds => M.pure (!ds.isEmpty)
  | .tup ds => M.pure (!ds.isEmpty)
  | .str x => fun _ w => if x.length ≤ sizeLine then .ok ((x.length : Int) != 0) w else .no
  | _ => M.no
def cTru (f : EF) : Env → M Bool := fun env => M.bind (f env) fun d => M.bind (M.see d) M.truth
theorem Reps.isEmpty {ρ : Zn} {H : Hp} {ds : List D} {vs : List V} (r : Reps C ρ H ds vs) : (!ds.isEmpty) = !vs.isEmpty := by
  have := r.len
  cases ds <;> cases vs <;> first | rfl | simp at this
theorem pt_tru (ha : PE X a (tE (cfg X) W fa)) (he : ∀ whole, isTrue a X.env whole = (do let v ← whole; standAt a.pos; holding [v] (truthy v)) := by intro _; rfl) : PT X a (tT (cfg X) W (cTru fa)) :=
  pt_imp (pt_truth ha he) fun σ H Q ⟨ρ, env, ro, w, hS, hE, q⟩ => by
    refine tR_seq hS hE q fun d w1 v ρ1 H1 x1 s1 r1 q1 => ?_
    replace q1 : AfterR (cfg X) RB W σ ρ1 H1 ro (M.truth (see ro w1 d) ro w1) Q := q1
    have sd := seen_of s1 r1
    generalize see ro w1 d = d3 at sd q1
    cases d3 with
    | bl k => rw [sd.bl]; exact ⟨k, rfl, q1 k ρ1 H1 .refl s1 rfl⟩
    | non => rw [sd.non]; exact ⟨false, rfl, q1 _ ρ1 H1 .refl s1 rfl⟩
    | int i => rw [sd.int]; exact ⟨_, rfl, q1 _ ρ1 H1 .refl s1 rfl⟩
    | str z =>
      unfold M.truth at q1
      by_cases c : z.length ≤ sizeLine
      · simp only [if_pos c] at q1
        rw [sd.str]
        exact ⟨_, ⟨c, rfl⟩, q1 _ ρ1 H1 .refl s1 rfl⟩
      · simp only [if_neg c] at q1
        exact (show False from q1).elim
    | lst ds =>
      obtain ⟨p, vs, rfl, h, r⟩ := sd.lst
      exact ⟨_, .inl ⟨vs, h, rfl⟩, q1 _ ρ1 H1 .refl s1 r.isEmpty⟩
    | tup ds =>
      obtain ⟨p, vs, rfl, h, r⟩ := sd.tup
      exact ⟨_, .inr (.inl ⟨vs, h, rfl⟩), q1 _ ρ1 H1 .refl s1 r.isEmpty⟩
    | _ => exact (show False from q1).elim
theorem pw_and1F (ha : PT X a (tT C W ta)) : PW X (.BoolOp .And [a] pos) (tT C W ta) := pw_and1 ha
theorem pw_or1F (ha : PT X a (tT C W ta)) : PW X (.BoolOp .Or [a] pos) (tT C W ta) := pw_or1 ha
theorem pw_imp {t t' : TT} (h : PW X e t) (i : ∀ σ H Q, t' σ H Q → t σ H Q) : PW X e t' := ⟨fun wh pins s σ H Q I q => h.run wh pins s σ H Q I (i σ H Q q)⟩
theorem pw_andF (ha : PT X a (tT C W ta)) (hb : PW X (.BoolOp .And (b :: rest) pos) (tT C W tb)) : PW X (.BoolOp .And (a :: b :: rest) pos) (tT C W (cAndT ta tb)) := pw_imp (pw_and ha hb) fun σ H Q ⟨ρ, env, ro, w, hS, hE, q⟩ => by
  refine tR_seq hS hE q fun d w1 v ρ1 H1 x1 s1 r1 q1 => ?_
  cases (show d = v from r1)
  cases d with
  | true => exact ⟨ρ1, env, ro, w1, s1, hE.ext x1, q1⟩
  | false => exact q1 false ρ1 H1 .refl s1 rfl
theorem pw_orF (ha : PT X a (tT C W ta)) (hb : PW X (.BoolOp .Or (b :: rest) pos) (tT C W tb)) : PW X (.BoolOp .Or (a :: b :: rest) pos) (tT C W (cOrT ta tb)) := pw_imp (pw_or ha hb) fun σ H Q ⟨ρ, env, ro, w, hS, hE, q⟩ => by
  refine tR_seq hS hE q fun d w1 v ρ1 H1 x1 s1 r1 q1 => ?_
  cases (show d = v from r1)
  cases d with
  | true => exact q1 true ρ1 H1 .refl s1 rfl
  | false => exact ⟨ρ1, env, ro, w1, s1, hE.ext x1, q1⟩
theorem pt_notF (ha : PT X a (tT C W ta)) : PT X (.UnaryOp .Not a pos) (tT C W (cNotT ta)) := pt_imp (pt_not ha) fun σ H Q ⟨ρ, env, ro, w, hS, hE, q⟩ => by
  refine tR_seq hS hE q fun d w1 v ρ1 H1 x1 s1 r1 q1 => ?_
  cases (show d = v from r1)
  exact q1 (!d) ρ1 H1 .refl s1 rfl
def cIf (t : Env → M Bool) (fa fb : EF) : EF := fun env => M.bind (t env) fun b => if b = true then fa env else fb env
theorem pf_if (hc : PT X c (tT C W ta)) (ha : PE X a (tE C W fa)) (hb : PE X b (tE C W fb)) : PE X (.IfExp c a b pos) (tE C W (cIf ta fa fb)) := pe_imp (pe_ifExp hc ha hb) fun σ H Q ⟨ρ, env, ro, w, hS, hE, q⟩ => by
  refine tR_seq hS hE q fun d w1 v ρ1 H1 x1 s1 r1 q1 => ?_
  cases (show d = v from r1)
  cases d with
  | true => exact ⟨ρ1, env, ro, w1, s1, hE.ext x1, q1⟩
  | false => exact ⟨ρ1, env, ro, w1, s1, hE.ext x1, q1⟩
end
end Fx
namespace Fx
open PySem PySem.Spec L2

/-! ### statements -/
inductive Fl where
  | nx | rt (d : D) | bk | ct
inductive OS where
  | go (fl : Fl) (env : Env) (w : List D)
  | exn (c : Str) (ns : List Str) (xs : List D) (env : Env) (w : List D)
  | no
abbrev SF := Env → List D → List D → OS
def AfterS (C : Cfg) (W : WX) (ρ : Zn) (H : Hp) (ro : List D) (o : OS) (D : Ends) : Prop :=
  match o with
  | .go .nx env w => ∀ σ' ρ' H', Ext ρ ρ' H H' → RepS C ρ' H' (ro ++ w) → RepE C ρ' H' env σ' → D.nx σ' H'
  | .go (.rt d) env w => ∀ v ρ' H', Ext ρ ρ' H H' → RepS C ρ' H' (ro ++ w) → Rep C ρ' H' d v → D.rt v H'
  | .go .bk env w => ∀ σ' ρ' H', Ext ρ ρ' H H' → RepS C ρ' H' (ro ++ w) → RepE C ρ' H' env σ' → D.bk σ' H'
  | .go .ct env w => ∀ σ' ρ' H', Ext ρ ρ' H H' → RepS C ρ' H' (ro ++ w) → RepE C ρ' H' env σ' → D.ct σ' H'
  | .exn c ns xs env w => ∀ cls dx σ' ρ' H', Ext ρ ρ' H H' → RepS C ρ' H' (ro ++ w) → RepE C ρ' H' env σ' → RepX C ρ' H' c ns xs cls dx → W cls dx σ' H'
  | .no => False
def tS (C : Cfg) (W : WX) (f : SF) : TS := fun D σ H => ∃ ρ env ro w, RepS C ρ H (ro ++ w) ∧ RepE C ρ H env σ ∧ AfterS C W ρ H ro (f env ro w) D

section
variable {C : Cfg} {W : WX} {ρ ρ' : Zn} {H H' : Hp} {ro w : List D} {σ : L2.St} {env : Env}
theorem AfterS.ext {o : OS} {D : Ends} (x : Ext ρ ρ' H H') (h : AfterS C W ρ H ro o D) : AfterS C W ρ' H' ro o D := by
  cases o with
  | go fl env w =>
    cases fl with
    | nx => exact fun σ2 ρ2 H2 y hS hE => h σ2 ρ2 H2 (x.trans y) hS hE
    | rt d => exact fun v ρ2 H2 y hS hR => h v ρ2 H2 (x.trans y) hS hR
    | bk => exact fun σ2 ρ2 H2 y hS hE => h σ2 ρ2 H2 (x.trans y) hS hE
    | ct => exact fun σ2 ρ2 H2 y hS hE => h σ2 ρ2 H2 (x.trans y) hS hE
  | exn c ns xs env w => exact fun cls dx σ2 ρ2 H2 y hS hE hX => h cls dx σ2 ρ2 H2 (x.trans y) hS hE hX
  | no => exact h
theorem RepE.set {i : Nat} {d : D} {v : V} (h : RepE C ρ H env σ) (r : Rep C ρ H d v) : RepE C ρ H (env.set i (some d)) (σ.set i (some v)) := by
  refine ⟨by simp [h.len], fun j e q => ?_⟩
  by_cases hj : i = j
  · subst hj
    have hl := (List.getElem?_eq_some_iff.mp q).1
    rw [List.length_set] at hl
    rw [List.getElem?_set_self hl] at q
    cases q
    exact ⟨v, by rw [List.getElem?_set_self (by rw [← h.len]; exact hl)], r⟩
  · rw [List.getElem?_set_ne hj] at q
    obtain ⟨u, h1, h2⟩ := h.at' j e q
    exact ⟨u, by rw [List.getElem?_set_ne hj]; exact h1, h2⟩
def sLift {α : Type} (f : Env → M α) (k : α → SF) : SF := fun env ro w => match f env ro w with
  | .ok a w' => k a env ro w'
  | .exn c ns xs w' => .exn c ns xs env w'
  | .no => .no
theorem lift_after {α β : Type} {R : Zn → Hp → α → β → Prop} {f : Env → M α} {k : α → SF} {D : Ends} {K : β → Hp → Prop} (hE : RepE C ρ H env σ) (h : AfterS C W ρ H ro (sLift f k env ro w) D)
    (kk : ∀ d w1 v ρ1 H1, Ext ρ ρ1 H H1 → RepS C ρ1 H1 (ro ++ w1) → RepE C ρ1 H1 env σ → R ρ1 H1 d v → AfterS C W ρ1 H1 ro (k d env ro w1) D → K v H1) : AfterR C R W σ ρ H ro (f env ro w) K := by
  unfold sLift at h
  cases e : f env ro w with
  | ok d w1 =>
    rw [e] at h
    exact fun v ρ1 H1 x s r => kk d w1 v ρ1 H1 x s (hE.ext x) r (AfterS.ext x h)
  | exn c ns xs w1 =>
    rw [e] at h
    exact fun cls dx ρ1 H1 x s r => h cls dx σ ρ1 H1 x s (hE.ext x) r
  | no =>
    rw [e] at h
    exact h
theorem tS_seq {α β : Type} {R : Zn → Hp → α → β → Prop} {f : Env → M α} {k : α → SF} {D : Ends} {K : β → Hp → Prop} (hS : RepS C ρ H (ro ++ w)) (hE : RepE C ρ H env σ) (h : AfterS C W ρ H ro (sLift f k env ro w) D)
    (kk : ∀ d w1 v ρ1 H1, Ext ρ ρ1 H H1 → RepS C ρ1 H1 (ro ++ w1) → RepE C ρ1 H1 env σ → R ρ1 H1 d v → AfterS C W ρ1 H1 ro (k d env ro w1) D → K v H1) : tR C R W f σ H K := ⟨ρ, env, ro, w, hS, hE, lift_after hE h kk⟩
end

theorem ps_imp {X : Cx} {st : Stmt} {t t' : TS} (h : PS X st t) (i : ∀ D σ H, t' D σ H → t D σ H) : PS X st t' := ⟨fun pins s σ H D I q => h.run pins s σ H D I (i D σ H q)⟩
theorem pss_imp {X : Cx} {st : List Stmt} {t t' : TS} (h : PSs X st t) (i : ∀ D σ H, t' D σ H → t D σ H) : PSs X st t' := ⟨fun pins s σ H D I q => h.run pins s σ H D I (i D σ H q)⟩

section
variable {X : Cx} {C : Cfg} {W : WX} {pos p : Pos} {a b c e o : Expr} {es : List Expr} {st : Stmt} {sts : List Stmt} {fa fb fc f : EF} {s t : SF} {ta : Env → M Bool}
def sNil : SF := fun env _ w => .go .nx env w
def sSeq (s t : SF) : SF := fun env ro w => match s env ro w with
  | .go .nx env' w' => t env' ro w'
  | o => o
theorem fs_nil : PSs X [] (tS C W sNil) := pss_imp pss_nil fun D σ H ⟨ρ, env, ro, w, hS, hE, q⟩ => q σ ρ H .refl hS hE
theorem fs_cons (h1 : PS X st (tS C W s)) (h2 : PSs X sts (tS C W t)) : PSs X (st :: sts) (tS C W (sSeq s t)) := pss_imp (pss_cons h1 h2) fun D σ H ⟨ρ, env, ro, w, hS, hE, q⟩ => by
  refine ⟨ρ, env, ro, w, hS, hE, ?_⟩
  unfold sSeq at q
  cases e : s env ro w with
  | go fl env1 w1 =>
    rw [e] at q
    cases fl with
    | nx => exact fun σ1 ρ1 H1 x1 s1 e1 => ⟨ρ1, env1, ro, w1, s1, e1, AfterS.ext x1 q⟩
    | rt d => exact q
    | bk => exact q
    | ct => exact q
  | exn c ns xs env1 w1 =>
    rw [e] at q
    exact q
  | no =>
    rw [e] at q
    exact q
theorem fs_one (h1 : PS X st (tS C W s)) : PSs X [st] (tS C W s) := pss_one h1
def sPass : SF := sNil
def sBrk : SF := fun env _ w => .go .bk env w
def sCnt : SF := fun env _ w => .go .ct env w
def sSet (i : Nat) (f : EF) : SF := sLift f fun d env _ w => .go .nx (env.set i (some d)) w
theorem f_set (i : Nat) {x : Str} {pos' : Pos} (hN : X.N.Nodup) (he : PE X e (tE C W f)) (hi : X.N[i]? = some x := by rfl) (hx : Loc X.env.scope x := by first | exact Or.inl rfl | exact Or.inr rfl) (hs : swapsWith e (some (.Name x pos')) pos.line X.env = pure false := by rfl) (hf : X.fn x = true ∨ X.env.scope.names.lookup x = some .local := by first | exact .inl rfl | exact .inr rfl) :
    PS X (.Assign [.Name x pos'] e pos) (tS C W (sSet i f)) := ps_imp (ps_set hN hi hx he hs hf) fun D σ H ⟨ρ, env, ro, w, hS, hE, q⟩ =>
  tS_seq hS hE q fun d w1 v ρ1 H1 x1 s1 e1 r1 q1 => q1 _ ρ1 H1 .refl s1 (e1.set r1)
def sRet (f : EF) : SF := sLift f fun d env _ w => .go (.rt d) env w
theorem f_ret (he : PE X e (tE C W f)) : PS X (.Return (some e) pos) (tS C W (sRet f)) := ps_imp (ps_ret he) fun D σ H ⟨ρ, env, ro, w, hS, hE, q⟩ =>
  tS_seq hS hE q fun d w1 v ρ1 H1 x1 s1 e1 r1 q1 => q1 v ρ1 H1 .refl s1 r1
def sRetN : SF := fun env _ w => .go (.rt .non) env w
def sExpr (f : EF) : SF := sLift f fun _ env _ w => .go .nx env w
theorem f_expr (he : PE X e (tE C W f)) (hs : swapsWith e none pos.line X.env = pure false := by rfl) : PS X (.Expr e pos) (tS C W (sExpr f)) := ps_imp (ps_expr he hs) fun D σ H ⟨ρ, env, ro, w, hS, hE, q⟩ =>
  tS_seq hS hE q fun d w1 v ρ1 H1 x1 s1 e1 r1 q1 => q1 σ ρ1 H1 .refl s1 e1
def sIf (ta : Env → M Bool) (s t : SF) : SF := sLift ta fun b => if b = true then s else t
theorem f_if {as bs : List Stmt} (hc : PT X c (tT C W ta)) (ha : PSs X as (tS C W s)) (hb : PSs X bs (tS C W t)) : PS X (.If c as bs pos) (tS C W (sIf ta s t)) := ps_imp (ps_if hc ha hb) fun D σ H ⟨ρ, env, ro, w, hS, hE, q⟩ => by
  refine tS_seq hS hE q fun d w1 v ρ1 H1 x1 s1 e1 r1 q1 => ?_
  cases (show d = v from r1)
  cases d with
  | true => exact ⟨ρ1, env, ro, w1, s1, e1, q1⟩
  | false => exact ⟨ρ1, env, ro, w1, s1, e1, q1⟩
/-- x op= e -/
def sAug (i : Nat) (g : D → D → M D) (f : EF) : SF := sLift (cVar i) fun x => sLift f fun y => sLift (fun _ => M.bind (M.see x) fun x' => M.bind (M.see y) fun y' => g x' y') fun z env _ w => .go .nx (env.set i (some z)) w
/-! ### a list that changes -/
def mMod (f : List D → Option (D × List D)) : D → M D
  | .ref n => fun ro w => if n < ro.length then .no else match w[n - ro.length]? with
    | some (.lst ds) => (match f ds with
      | some (d, ds') => .ok d (w.set (n - ro.length) (.lst ds'))
      | none => .no)
    | _ => .no
  | _ => M.no
/-- what it asks -/
theorem mMod_ok {f : List D → Option (D × List D)} {d : D} {x : V} {ρ : Zn} {H : Hp} {ro w : List D} {σ : L2.St} {Q : VK} (hS : RepS C ρ H (ro ++ w)) (hd : Rep C ρ H d x) (q : AfterR C (Rep C) W σ ρ H ro (mMod f d ro w) Q) :
    ∃ a vs ds r ds', x = .ref a ∧ H a = some (.lst vs) ∧ Reps C ρ H ds vs ∧ f ds = some (r, ds') ∧
      ∀ v vs', Rep C ρ H r v → Reps C ρ H ds' vs' → Q v (upd H a (.lst vs')) := by
  cases d with
  | ref n =>
    unfold mMod at q
    by_cases c : n < ro.length
    · simp only [if_pos c] at q
      exact (show False from q).elim
    · simp only [if_neg c] at q
      obtain ⟨a, ha, rfl⟩ := hd
      cases e : w[n - ro.length]? with
      | none =>
        rw [e] at q
        exact (show False from q).elim
      | some o =>
        rw [e] at q
        cases o with
        | lst ds =>
          have hn : (ro ++ w)[n]? = some (.lst ds) := by
            rw [List.getElem?_append_right (by omega)]
            exact e
          obtain ⟨vs, hv, r⟩ := hS.obj n a _ ha hn
          cases ef : f ds with
          | none =>
            simp only [ef] at q
            exact (show False from q).elim
          | some z =>
            obtain ⟨r', ds'⟩ := z
            simp only [ef] at q
            refine ⟨a, vs, ds, r', ds', rfl, hv, r, ef, fun v vs' hr hvs => ?_⟩
            exact ok_put (o := .lst vs') (d := .lst ds') hS c ha (fun H' x' e' => ⟨vs', e', Reps.ext x' ds' hvs⟩) hr q
        | _ => exact (show False from q).elim
  | _ => exact (show False from q).elim
/-- o.m(..) of a list: o is looked at ahead of the arguments -/
def cMl (g : List D → D → M D) (fo : EF) (fs : Env → M (List D)) : EF := fun env => M.bind (fo env) fun o => M.bind (M.see o) fun o' => match o' with
  | .lst _ => M.bind (fs env) fun ds => g ds o
  | _ => M.no
def OkM (C : Cfg) (r : V → List V → Hp → VK → Prop) (g : List D → D → M D) : Prop :=
  ∀ (W : WX) (σ : L2.St) (ρ : Zn) (H : Hp) (ro w : List D) (d : D) (x : V) (ds : List D) (xs : List V) (Q : VK), RepS C ρ H (ro ++ w) → Rep C ρ H d x → Reps C ρ H ds xs → AfterR C (Rep C) W σ ρ H ro (g ds d ro w) Q → r x xs H Q
theorem tE_ml {r : V → List V → Hp → VK → Prop} {g : List D → D → M D} {fo : EF} {fs : Env → M (List D)} (hr : OkM (cfg X) r g) {σ : L2.St} {H : Hp} {Q : VK} (q : tE (cfg X) W (cMl g fo fs) σ H Q) :
    tBM X.K "list" r (tE (cfg X) W fo) (tA (cfg X) W fs) σ H Q := by
  obtain ⟨ρ, env, ro, w, hS, hE, q⟩ := q
  refine tR_seq hS hE q fun d w1 v ρ1 H1 x1 s1 r1 q1 => ?_
  replace q1 : AfterR (cfg X) (Rep (cfg X)) W σ ρ1 H1 ro ((match see ro w1 d with
    | .lst _ => M.bind (fs env) fun ds => g ds d
    | _ => M.no) ro w1) Q := q1
  have sd := seen_of s1 r1
  generalize see ro w1 d = d3 at sd q1
  cases d3 with
  | lst ds =>
    obtain ⟨a, vs, rfl, h, r⟩ := sd.lst
    refine ⟨.inl ⟨rfl, vs, h⟩, ?_⟩
    refine tR_seq s1 (hE.ext x1) q1 fun es w2 us ρ2 H2 x2 s2 r2 q2 => ?_
    exact hr W σ ρ2 H2 ro w2 d _ es us Q s2 (Rep.ext x2 d r1) r2 q2
  | _ => exact (show False from q1).elim
def gAppend (ds : List D) : D → M D := mMod fun es => match ds with
  | [d] => if es.length < sizeLine then some (.non, es ++ [d]) else none
  | _ => none
theorem okm_append : OkM C rAppend gAppend := by
  intro W σ ρ H ro w d x ds xs Q hS hd hds q
  obtain ⟨a, vs, es, r, es', rfl, hv, hr, hf, k⟩ := mMod_ok hS hd q
  cases ds with
  | nil => cases hf
  | cons d' ds =>
    cases ds with
    | cons _ _ => cases hf
    | nil =>
      obtain ⟨v, r', rfl, h1, h2⟩ := hds
      cases (show r' = [] from h2)
      replace hf : (if es.length < sizeLine then some (D.non, es ++ [d']) else none) = some (r, es') := hf
      by_cases c : es.length < sizeLine
      · rw [if_pos c] at hf
        cases hf
        exact ⟨a, vs, v, rfl, rfl, hv, by rw [← hr.len]; exact c, k .non _ rfl (hr.append (Reps.one h1))⟩
      · rw [if_neg c] at hf
        cases hf
theorem pf_append {fs : Env → M (List D)} {fo : EF} {apos : Pos} (ho : PE X o (tE (cfg X) W fo)) (ha : PA X (e :: es) (tA (cfg X) W fs)) (hbase : attributeBase o "append" X.env (eval o X.env) = eval o X.env := by rfl)
    (hfew : ((backTo pos (starEach (e :: es) X.env)).all (fun x => !x.1) && (backToKw pos (keywordEach [] X.env)).all (fun x => x.1.isSome)
      && decide ((e :: es).length + ([] : List Keyword).length + (if ([] : List Keyword).isEmpty then 0 else 1) < 30)) = true := by rfl)
    (hline : (apos.endLine == pos.line) = true := by rfl) (hs : starEach (e :: es) X.env = (false, eval e X.env) :: starEach es X.env := by rfl) (hplain : (backTo pos (starEach es X.env)).any (·.1) = false := by rfl) :
    PE X (.Call (.Attribute o "append" apos) (e :: es) [] pos) (tE (cfg X) W (cMl gAppend fo fs)) :=
  pe_imp (pe_bm PySem.F.plainAttrs_list PySem.F.slot_list_append PySem.F.type_list_append mt_append ho ha hbase hfew hline hs hplain) fun _ _ _ q => tE_ml okm_append q
/-- x[i] = v -/
def gPut (v o i : D) : M D := match i with
  | .int k => mMod (fun es => match ixN es.length k with
    | some j => some (.non, es.set j v)
    | none => none) o
  | _ => M.no
def sPut (fo fi fv : EF) : SF := sLift fv fun v => sLift fo fun o => sLift fi fun i => sLift (fun _ => gPut v o i) fun _ env _ w => .go .nx env w
theorem f_put {i : Expr} {fo fi fv : EF} {pos' : Pos} (hv : PE X e (tE (cfg X) W fv)) (ho : PE X o (tE (cfg X) W fo)) (hi : PE X i (tE (cfg X) W fi)) (hs : swapsWithSole [.Subscript o i pos'] e pos.line X.env = pure false := by rfl) (hw : swappedStores [.Subscript o i pos'] e X.env = pure none := by rfl)
    (ha : ∀ v, assign (.Subscript o i pos') X.env v = (do
      let ov ← holding [v] (eval o X.env)
      let iv ← holding [v, ov] (eval i X.env)
      standAt pos'
      holding [v, ov, iv] (setItem ov iv v)
      release [v, ov, iv] []) := by intro _; rfl) (h1 : (assignEach [.Subscript o i pos'] X.env).map (·.2) = [assign (.Subscript o i pos') X.env] := by rfl) :
    PS X (.Assign [.Subscript o i pos'] e pos) (tS (cfg X) W (sPut fo fi fv)) := ps_imp (ps_asg hv (pg_sub ho hi set_list ha) hs hw h1) fun D σ H ⟨ρ, env, ro, w, hS, hE, q⟩ => by
  refine tS_seq hS hE q fun dv w1 v ρ1 H1 x1 s1 e1 r1 q1 => ?_
  refine tS_seq s1 e1 q1 fun do' w2 vo ρ2 H2 x2 s2 e2 r2 q2 => ?_
  refine tS_seq s2 e2 q2 fun di w3 vi ρ3 H3 x3 s3 e3 r3 q3 => ?_
  have rv := Rep.ext x3 dv (Rep.ext x2 dv r1)
  have ro' := Rep.ext x3 do' r2
  cases di with
  | int k =>
    have q4 : AfterR (cfg X) (Rep (cfg X)) W σ ρ3 H3 ro (mMod (fun es => match ixN es.length k with
      | some j => some ((.non : Fx.D), es.set j dv)
      | none => none) do' ro w3) (fun _ H4 => D.nx σ H4) :=
      lift_after (f := fun _ => gPut dv do' (.int k)) e3 q3 fun z w4 v4 ρ4 H4 x4 s4 e4 r4 q4 => q4 σ ρ4 H4 .refl s4 e4
    obtain ⟨a, vs, es, r, es', rfl, hv, hr, hf, kk⟩ := mMod_ok s3 ro' q4
    cases e5 : ixN es.length k with
    | none =>
      rw [e5] at hf
      cases hf
    | some j =>
      rw [e5] at hf
      cases hf
      exact ⟨a, vs, k, j, rfl, r3, hv, by rw [← hr.len]; exact e5, kk .non _ rfl (hr.set rv j)⟩
  | _ => exact (show False from q3).elim
end
end Fx
namespace Fx
open PySem PySem.Spec L2

/-! ### what is walked: its items in a row -/
def Walks (C : Cfg) (ρ0 : Zn) (H0 : Hp) (ds : List D) (J : It) : Prop :=
  ∀ (i : Nat) (ρ : Zn) (H : Hp) (v : List D), ExtR ρ0 ρ H0 H → RepS C ρ H v →
    (∀ d, ds[i]? = some d → J.go i H ∧ ∀ x H', J.yld i H x H' → Ext ρ ρ H H' ∧ RepS C ρ H' v ∧ Rep C ρ H' d x) ∧ (ds[i]? = none → J.stop i H)
abbrev tI (C : Cfg) (W : WX) (f : Env → M (List D)) : TI := tR C (Walks C) W f
theorem pi_imp {X : Cx} {tg e : Expr} {t t' : TI} (h : PI X tg e t) (i : ∀ σ H R, t' σ H R → t σ H R) : PI X tg e t' := ⟨fun pins s σ H R I q => h.run pins s σ H R I (i σ H R q)⟩
theorem pi_or {X : Cx} {tg e : Expr} {t t' : TI} (h : PI X tg e t) (h' : PI X tg e t') : PI X tg e (fun σ H R => t σ H R ∨ t' σ H R) := ⟨fun pins s σ H R I q => q.elim (h.run pins s σ H R I) (h'.run pins s σ H R I)⟩

section
variable {X : Cx} {C : Cfg} {W : WX} {pos p : Pos} {a b c e tg : Expr} {es : List Expr} {fa f : EF} {fs : Env → M (List D)} {ρ : Zn} {H : Hp}
/-! ### targets -/
inductive Tg where
  | nm (i : Nat)
  | tp (is : List Nat)
  | np (is js : List Nat)
def Tg.slots : Tg → List Nat
  | .nm i => [i]
  | .tp is => is
  | .np is js => is ++ js
def setsE : Env → List Nat → List D → Env
  | env, i :: is, d :: ds => setsE (env.set i (some d)) is ds
  | env, _, _ => env
def setsS : L2.St → List Nat → List V → L2.St
  | σ, i :: is, v :: vs => setsS (σ.set i (some v)) is vs
  | σ, _, _ => σ
def Tg.put : Tg → D → Env → Option Env
  | .nm i, d, env => some (env.set i (some d))
  | .tp is, .tup ds, env => if ds.length = is.length then some (setsE env is ds) else none
  | .tp _, _, _ => none
  | .np is js, .tup (.tup ds :: es), env => if ds.length = is.length ∧ es.length = js.length then some (setsE (setsE env is ds) js es) else none
  | .np _ _, _, _ => none
def gNs : List Nat → TGs
  | [] => gNil
  | i :: is => gCons (gName i) (gNs is)
def Tg.g (K : PySem.W.Frag) : Tg → TG
  | .nm i => gName i
  | .tp is => gTup K is.length (gNs is)
  | .np is js => gTup K (js.length + 1) (gCons (gTup K is.length (gNs is)) (gNs js))
theorem gNs_ok : ∀ {is : List Nat} {vs : List V} {σ : L2.St} {Q : L2.St → Hp → Prop}, vs.length = is.length → Q (setsS σ is vs) H → gNs is vs σ H Q
  | [], vs, σ, Q, hl, q => by
    cases vs with
    | nil => exact ⟨rfl, q⟩
    | cons _ _ => simp at hl
  | i :: is, vs, σ, Q, hl, q => by
    cases vs with
    | nil => simp at hl
    | cons v vs => exact ⟨v, vs, rfl, gNs_ok (by simpa using hl) q⟩
theorem sets_ok : ∀ {is : List Nat} {ds : List D} {vs : List V} {env : Env} {σ : L2.St}, RepE C ρ H env σ → Reps C ρ H ds vs → RepE C ρ H (setsE env is ds) (setsS σ is vs)
  | [], ds, vs, env, σ, h, r => by
    cases ds with
    | nil =>
      cases (show vs = [] from r)
      exact h
    | cons d ds =>
      obtain ⟨v, r', rfl, _, _⟩ := r
      exact h
  | i :: is, ds, vs, env, σ, h, r => by
    cases ds with
    | nil =>
      cases (show vs = [] from r)
      exact h
    | cons d ds =>
      obtain ⟨v, r', rfl, h1, h2⟩ := r
      exact sets_ok (is := is) (h.set h1) h2
def Tg.set : Tg → List V → V → L2.St → L2.St
  | .nm i, _, v, σ => σ.set i (some v)
  | .tp is, vs, _, σ => setsS σ is vs
  | .np is js, vs, _, σ => setsS (setsS σ is (vs.take is.length)) js (vs.drop is.length)
theorem Tg.ok {t : Tg} {d : D} {v : V} {env env' : Env} {σ : L2.St} {Q : L2.St → Hp → Prop} (hE : RepE C ρ H env σ) (hd : Rep C ρ H d v) (e : t.put d env = some env')
    (q : ∀ vs, RepE C ρ H env' (t.set vs v σ) → Q (t.set vs v σ) H) : t.g C.K v σ H Q := by
  cases t with
  | nm i =>
    cases (show some (env.set i (some d)) = some env' from e)
    exact q [] (hE.set hd)
  | tp is =>
    cases d with
    | tup ds =>
      replace e : (if ds.length = is.length then some (setsE env is ds) else none) = some env' := e
      by_cases c : ds.length = is.length
      · rw [if_pos c] at e
        cases e
        obtain ⟨a, vs, rfl, h, r⟩ := hd
        exact ⟨a, vs, rfl, Still.sqT h, by rw [← r.len, c], gNs_ok (by rw [← r.len, c]) (q vs (sets_ok hE r))⟩
      · rw [if_neg c] at e
        cases e
    | _ => cases e
  | np is js =>
    cases d with
    | tup ds =>
      cases ds with
      | nil => cases e
      | cons d1 es =>
        cases d1 with
        | tup ds =>
          replace e : (if ds.length = is.length ∧ es.length = js.length then some (setsE (setsE env is ds) js es) else none) = some env' := e
          by_cases c : ds.length = is.length ∧ es.length = js.length
          · rw [if_pos c] at e
            cases e
            obtain ⟨a, vs, rfl, h, v1, us, ev, ⟨b, ws, ew, h', r1⟩, r2⟩ := hd
            subst ev ew
            have l1 : ws.length = is.length := by rw [← r1.len, c.1]
            have l2 : us.length = js.length := by rw [← r2.len, c.2]
            have q' := q (ws ++ us)
            have es' : Tg.set (.np is js) (ws ++ us) (.ref a) σ = setsS (setsS σ is ws) js us := by
              show setsS (setsS σ is ((ws ++ us).take is.length)) js ((ws ++ us).drop is.length) = _
              rw [List.take_left' l1, List.drop_left' l1]
            rw [es'] at q'
            exact ⟨a, _, rfl, Still.sqT h, by rw [List.length_cons, l2], .ref b, us, rfl, ⟨b, ws, rfl, Still.sqT h', l1, gNs_ok l1 (gNs_ok l2 (q' (sets_ok (sets_ok hE r1) r2)))⟩⟩
          · rw [if_neg c] at e
            cases e
        | _ => cases e
    | _ => cases e
theorem pg_n (i : Nat) {x : Str} (hN : X.N.Nodup) (hi : X.N[i]? = some x := by rfl) (hx : Loc X.env.scope x := by first | exact Or.inl rfl | exact Or.inr rfl) (hf : X.fn x = true ∨ X.env.scope.names.lookup x = some .local := by first | exact .inl rfl | exact .inr rfl) :
    PG X (.Name x pos) ((Tg.nm i).g X.K) := pg_name hN hi hx hf
theorem pgn_nil : PGs X [] (gNs []) := pgs_nil
theorem pgn_cons {i : Nat} {is : List Nat} (h1 : PG X e ((Tg.nm i).g X.K)) (h2 : PGs X es (gNs is)) (hs : (assignEach (e :: es) X.env).map (·.2) = assign e X.env :: (assignEach es X.env).map (·.2) := by rfl) : PGs X (e :: es) (gNs (i :: is)) := pgs_cons h1 h2 hs
theorem pg_t {k : Nat} {is : List Nat} (hc : X.calm = true) (h : PGs X es (gNs is)) (hn : (assignEach es X.env).length = is.length := by rfl) (hst : (assignEach es X.env).findIdx? (·.1) = none := by rfl) : PG X (.Tuple es k pos) ((Tg.tp is).g X.K) := pg_tup hc h hn hst

/-! ### sources -/
/-- a list, a tuple that stands still -/
def cSeq (f : EF) : Env → M (List D) := fun env => M.bind (f env) fun d => match d with
  | .lst ds => M.pure ds
  | .tup ds => M.pure ds
  | _ => M.no
theorem walks_list {K : PySem.W.Frag} {mg : Str → Option Value} {ds : List D} {v : V} {a : Addr} {vs : List V} (h : Still ρ H a (.lst vs) ∨ KL K a vs) (r : Reps ⟨K, mg, w⟩ ρ H ds vs) : Walks ⟨K, mg, w⟩ ρ H ds (Itl K a) := by
  intro i ρ' H' u x s
  have h' : SqL K H' a vs := h.elim (fun h => .inl (Still.extR x h).2) .inr
  have r' := Reps.extR x ds r
  refine ⟨fun d e => ?_, fun e => ⟨vs, h', ?_⟩⟩
  · obtain ⟨y, h1, h2⟩ := r'.get e
    refine ⟨⟨vs, y, h', h1⟩, fun z H2 ⟨e2, g⟩ => ?_⟩
    subst e2
    have := g vs h'
    rw [h1] at this
    cases this
    exact ⟨.refl, s, h2⟩
  · exact List.getElem?_eq_none_iff.mp (r'.none e)
theorem walks_tup {K : PySem.W.Frag} {mg : Str → Option Value} {ds : List D} {v : V} {a : Addr} {vs : List V} (h : Still ρ H a (.tup vs) ∨ KT K a vs) (r : Reps ⟨K, mg, w⟩ ρ H ds vs) : Walks ⟨K, mg, w⟩ ρ H ds (Itt K a) := by
  intro i ρ' H' u x s
  have h' : SqT K H' a vs := h.elim (fun h => .inl (Still.extR x h).2) .inr
  have r' := Reps.extR x ds r
  refine ⟨fun d e => ?_, fun e => ⟨vs, h', ?_⟩⟩
  · obtain ⟨y, h1, h2⟩ := r'.get e
    refine ⟨⟨vs, y, h', h1⟩, fun z H2 ⟨e2, g⟩ => ?_⟩
    subst e2
    have := g vs h'
    rw [h1] at this
    cases this
    exact ⟨.refl, s, h2⟩
  · exact List.getElem?_eq_none_iff.mp (r'.none e)
theorem pfi_seq (h : PE X e (tE (cfg X) W f)) : PI X tg e (tI (cfg X) W (cSeq f)) := pi_imp (pi_or (pi_list h) (pi_tup h)) fun σ H R ⟨ρ, env, ro, w, hS, hE, q⟩ => by
  unfold cSeq M.bind at q
  cases ef : f env ro w with
  | no =>
    rw [ef] at q
    exact (show False from q).elim
  | exn c ns xs w1 =>
    rw [ef] at q
    exact .inl ⟨ρ, env, ro, w, hS, hE, by rw [ef]; exact q⟩
  | ok d w1 =>
    rw [ef] at q
    cases d with
    | lst ds =>
      refine .inl ⟨ρ, env, ro, w, hS, hE, ?_⟩
      rw [ef]
      intro v ρ1 H1 x1 s1 ⟨a, vs, ev, hv, r⟩
      subst ev
      exact ⟨a, rfl, ⟨vs, Still.sqL hv⟩, q _ ρ1 H1 x1 s1 (walks_list (v := .ref a) hv r)⟩
    | tup ds =>
      refine .inr ⟨ρ, env, ro, w, hS, hE, ?_⟩
      rw [ef]
      intro v ρ1 H1 x1 s1 ⟨a, vs, ev, hv, r⟩
      subst ev
      exact ⟨a, rfl, ⟨vs, Still.sqT hv⟩, q _ ρ1 H1 x1 s1 (walks_tup (v := .ref a) hv r)⟩
    | _ => exact (show False from q).elim
/-- the signs of a text -/
def cSigns (f : EF) : Env → M (List D) := fun env => M.bind (f env) fun d => match d with
  | .str x => M.pure (x.cps.toList.map fun c => .str ⟨#[c]⟩)
  | _ => M.no
theorem walks_str {x : Str} : Walks C ρ H (x.cps.toList.map fun c => .str ⟨#[c]⟩) (Its x) := by
  intro i ρ' H' u y s
  refine ⟨fun d e => ?_, fun e => ?_⟩
  · rw [List.getElem?_map] at e
    cases ec : x.cps.toList[i]? with
    | none =>
      rw [ec] at e
      cases e
    | some c =>
      rw [ec] at e
      cases e
      have hi := (List.getElem?_eq_some_iff.mp ec).1
      refine ⟨(by simpa using hi : i < x.cps.size), fun z H2 ⟨e2, c', g1, g2⟩ => ?_⟩
      subst e2
      have ec' : x.cps[i]? = some c := by simpa using ec
      rw [ec'] at g1
      cases g1
      exact ⟨.refl, s, g2⟩
  · have := List.getElem?_eq_none_iff.mp e
    show x.cps.size ≤ i
    simpa using this
theorem pfi_str (h : PE X e (tE C W f)) : PI X tg e (tI C W (cSigns f)) := pi_imp (pi_str h) fun σ H R ⟨ρ, env, ro, w, hS, hE, q⟩ => by
  refine tR_seq hS hE q fun d w1 v ρ1 H1 x1 s1 r1 q1 => ?_
  cases d with
  | str x => exact ⟨x, r1, q1 _ ρ1 H1 .refl s1 walks_str⟩
  | _ => exact (show False from q1).elim
/-- range -/
def rngD (lo : Int) (n : Nat) : List D := (List.range n).map fun (i : Nat) => .int (lo + i)
def gRng1 : List D → M (List D)
  | [.int j] => fun _ w => if j.natAbs < 2 ^ 62 then .ok (rngD 0 j.toNat) w else .no
  | _ => M.no
def gRng2 : List D → M (List D)
  | [.int i, .int j] => fun _ w => if i.natAbs < 2 ^ 62 ∧ j.natAbs < 2 ^ 62 then .ok (rngD i (j - i).toNat) w else .no
  | _ => M.no
def cRng1 (fs : Env → M (List D)) : Env → M (List D) := fun env => M.bind (fs env) gRng1
def cRng2 (fs : Env → M (List D)) : Env → M (List D) := fun env => M.bind (fs env) gRng2
theorem walks_rng {lo : Int} {n : Nat} : Walks C ρ H (rngD lo n) (Itr lo n) := by
  intro i ρ' H' u y s
  unfold rngD
  refine ⟨fun d e => ?_, fun e => ?_⟩
  · rw [List.getElem?_map] at e
    by_cases hi : i < n
    · rw [List.getElem?_range hi] at e
      cases e
      refine ⟨hi, fun z H2 ⟨e2, g⟩ => ?_⟩
      subst e2
      exact ⟨.refl, s, g⟩
    · rw [List.getElem?_eq_none (by simpa using hi)] at e
      cases e
  · rw [List.getElem?_eq_none_iff] at e
    exact (by simpa using e : n ≤ i)
theorem int_of {ds : List D} {vs : List V} {i : Int} (r : Reps C ρ H (.int i :: ds) vs) : ∃ vr, vs = .int i :: vr ∧ Reps C ρ H ds vr := by
  obtain ⟨v, r', e1, e2, e3⟩ := r
  cases (show v = .int i from e2)
  exact ⟨r', e1, e3⟩
theorem pfi_rng1 (hg : Gl X "range") (hm : X.mg "range" = none) (ha : PA X [a] (tA C W fs)) (hs : starEach [a] X.env = [(false, eval a X.env)] := by rfl) : PI X tg (.Call (.Name "range" p) [a] [] pos) (tI C W (cRng1 fs)) :=
  pi_imp (pi_range1 hg hm ha hs) fun σ H R ⟨ρ, env, ro, w, hS, hE, q⟩ => by
    refine tR_seq hS hE q fun ds w1 vs ρ1 H1 x1 s1 r1 q1 => ?_
    unfold gRng1 at q1
    split at q1
    · rename_i j
      obtain ⟨vr, rfl, e3⟩ := int_of r1
      cases (show vr = [] from e3)
      by_cases c : j.natAbs < 2 ^ 62
      · simp only [if_pos c] at q1
        exact ⟨j, rfl, by omega, by omega, q1 _ ρ1 H1 .refl s1 walks_rng⟩
      · simp only [if_neg c] at q1
        exact (show False from q1).elim
    · exact (show False from q1).elim
/-! ### for -/
def forL (t : Tg) (body : SF) : List D → SF
  | [] => sNil
  | d :: ds => fun env ro w => match t.put d env with
    | none => .no
    | some env1 => match body env1 ro w with
      | .go .nx env2 w2 => forL t body ds env2 ro w2
      | .go .ct env2 w2 => forL t body ds env2 ro w2
      | .go .bk env2 w2 => .go .nx env2 w2
      | .go (.rt d) env2 w2 => .go (.rt d) env2 w2
      | .exn c ns xs env2 w2 => .exn c ns xs env2 w2
      | .no => .no
def sFor (t : Tg) (it : Env → M (List D)) (body : SF) : SF := sLift it fun ds => forL t body ds
theorem tS_for {t : Tg} {it : Env → M (List D)} {body : SF} {D : Ends} {σ : L2.St} {H : Hp} (q : tS (cfg X) W (sFor t it body) D σ H) : tFor (tI (cfg X) W it) (t.g X.K) (tS (cfg X) W body) D σ H := by
  obtain ⟨ρ, env, ro, w, hS, hE, q⟩ := q
  refine tS_seq hS hE q fun ds w1 J ρ1 H1 x1 s1 e1 walk q1 => ?_
  refine ⟨fun i m σ H => i + m = ds.length ∧ ∃ ρ2 env2 w2, Ext ρ1 ρ2 H1 H ∧ RepS (cfg X) ρ2 H (ro ++ w2) ∧ RepE (cfg X) ρ2 H env2 σ ∧ AfterS (cfg X) W ρ2 H ro (forL t body (ds.drop i) env2 ro w2) D,
    ⟨ds.length, by omega, ρ1, env, w1, .refl, s1, e1, q1⟩, fun i m σ H ⟨hm, ρ2, env2, w2, x2, s2, e2, q2⟩ => ?_⟩
  have wk := walk i ρ2 H _ x2.r s2
  cases hd : ds[i]? with
  | none =>
    have hl := List.getElem?_eq_none_iff.mp hd
    rw [List.drop_eq_nil_of_le hl] at q2
    exact .inl ⟨wk.2 hd, q2 σ ρ2 H .refl s2 e2⟩
  | some d =>
    have hl := (List.getElem?_eq_some_iff.mp hd).1
    have hdrop : ds.drop i = d :: ds.drop (i + 1) := by
      rw [List.drop_eq_getElem_cons hl, (List.getElem?_eq_some_iff.mp hd).2]
    rw [hdrop] at q2
    obtain ⟨go, yl⟩ := wk.1 d hd
    refine .inr ⟨go, fun σ' H' => ∃ ρ3 env3 w3, Ext ρ1 ρ3 H1 H' ∧ RepS (cfg X) ρ3 H' (ro ++ w3) ∧ RepE (cfg X) ρ3 H' env3 σ' ∧ AfterS (cfg X) W ρ3 H' ro (forL t body (ds.drop (i + 1)) env3 ro w3) D,
      fun σ' H' h => ⟨m - 1, by omega, by omega, h⟩, fun y H' hy => ?_⟩
    obtain ⟨x3, s3, r3⟩ := yl y H' hy
    unfold forL at q2
    cases hput : t.put d env2 with
    | none =>
      simp only [hput] at q2
      exact (show False from q2).elim
    | some env3 =>
      simp only [hput] at q2
      refine Tg.ok (C := cfg X) (e2.ext x3) r3 hput fun vs e3 => ⟨ρ2, env3, ro, w2, s3, e3, ?_⟩
      cases hbd : body env3 ro w2 with
      | no =>
        simp only [hbd] at q2
        exact q2
      | exn c ns xs env4 w4 =>
        simp only [hbd] at q2
        exact AfterS.ext x3 q2
      | go fl env4 w4 =>
        simp only [hbd] at q2
        cases fl with
        | nx => exact fun σ5 ρ5 H5 x5 s5 e5 => ⟨ρ5, env4, w4, x2.trans (x3.trans x5), s5, e5, AfterS.ext (x3.trans x5) q2⟩
        | ct => exact fun σ5 ρ5 H5 x5 s5 e5 => ⟨ρ5, env4, w4, x2.trans (x3.trans x5), s5, e5, AfterS.ext (x3.trans x5) q2⟩
        | bk => exact fun σ5 ρ5 H5 x5 s5 e5 => q2 σ5 ρ5 H5 (x3.trans x5) s5 e5
        | rt d' => exact fun v5 ρ5 H5 x5 s5 r5 => q2 v5 ρ5 H5 (x3.trans x5) s5 r5

theorem f_for {t : Tg} {it : Env → M (List D)} {body : SF} {sts : List Stmt} (hp : PassesOwn (model X.prog X.w) X.A X.env X.xe) (hc : X.calm = true) (hi : PI X tg e (tI (cfg X) W it)) (hg : PG X tg (t.g X.K)) (hb : PSs X sts (tS (cfg X) W body)) (hs : ∀ x, foldedSetIterable e X.env x = pure x := by intro _; rfl) :
    PS X (.For tg e sts [] pos) (tS (cfg X) W (sFor t it body)) := ps_imp (ps_for hp hc hi hg hb (hs := hs)) fun D σ H q => tS_for q

/-! ### while: at most `n` turns -/
end
end Fx
namespace Fx
open PySem PySem.Spec L2

/-! ### the slots of a block wiped -/
theorem wipe_get (σ : L2.St) : ∀ (vs : List Nat) (j : Nat), (wipe σ vs)[j]? = if j ∈ vs then (if j < σ.length then some none else none) else σ[j]?
  | [], j => by simp [wipe]
  | v :: vs, j => by
    unfold wipe
    by_cases e : v = j
    · subst e
      simp only [List.mem_cons, true_or, if_true]
      by_cases hl : v < σ.length
      · rw [List.getElem?_set_self (by rw [wipe_length]; exact hl), if_pos hl]
      · rw [if_neg hl, List.getElem?_eq_none (by rw [List.length_set, wipe_length]; omega)]
    · rw [List.getElem?_set_ne e, wipe_get σ vs j]
      have : (j ∈ v :: vs) = (j ∈ vs) := by simp [Ne.symm e]
      simp only [this]
theorem wipe_eq {σ σ' : L2.St} {vs : List Nat} (hl : σ'.length = σ.length) (h : ∀ j, j ∉ vs → σ'[j]? = σ[j]?) : wipe σ' vs = wipe σ vs := by
  apply List.ext_getElem?
  intro j
  rw [wipe_get, wipe_get, hl]
  by_cases hj : j ∈ vs
  · simp only [if_pos hj]
  · simp only [if_neg hj]
    exact h j hj
theorem setsS_len : ∀ (is : List Nat) (vs : List V) (σ : L2.St), (setsS σ is vs).length = σ.length
  | [], vs, σ => by cases vs <;> rfl
  | i :: is, [], σ => rfl
  | i :: is, v :: vs, σ => by
    show (setsS (σ.set i (some v)) is vs).length = _
    rw [setsS_len is vs, List.length_set]
theorem setsS_get : ∀ (is : List Nat) (vs : List V) (σ : L2.St) (j : Nat), j ∉ is → (setsS σ is vs)[j]? = σ[j]?
  | [], vs, σ, j, _ => by cases vs <;> rfl
  | i :: is, [], σ, j, _ => rfl
  | i :: is, v :: vs, σ, j, h => by
    show (setsS (σ.set i (some v)) is vs)[j]? = _
    have h' : j ≠ i ∧ j ∉ is := by simpa using h
    rw [setsS_get is vs _ j h'.2, List.getElem?_set_ne (Ne.symm h'.1)]
theorem wipe_set {t : Tg} {own : List Nat} {vs : List V} {v : V} {σ : L2.St} (h : ∀ i ∈ t.slots, i ∈ own) : wipe (t.set vs v (wipe σ own)) own = wipe σ own := by
  have e1 : wipe (t.set vs v (wipe σ own)) own = wipe (wipe σ own) own := by
    cases t with
    | nm i =>
      refine wipe_eq (by simp [Tg.set]) fun j hj => ?_
      show ((wipe σ own).set i (some v))[j]? = _
      exact List.getElem?_set_ne fun e => hj (by rw [← e]; exact h i (by simp [Tg.slots]))
    | tp is =>
      refine wipe_eq (setsS_len _ _ _) fun j hj => ?_
      exact setsS_get is vs _ j fun hm => hj (h j hm)
    | np is js =>
      refine wipe_eq ((setsS_len _ _ _).trans (setsS_len _ _ _)) fun j hj => ?_
      exact (setsS_get js _ _ j fun hm => hj (h j (List.mem_append_right _ hm))).trans (setsS_get is _ _ j fun hm => hj (h j (List.mem_append_left _ hm)))
  rw [e1]
  refine wipe_eq (wipe_length _ _) fun j hj => ?_
  rw [wipe_get, if_neg hj]
def wipeE (env : Env) : List Nat → Env
  | [] => env
  | v :: vs => (wipeE env vs).set v none
theorem wipeE_ok {C : Cfg} {ρ : Zn} {H : Hp} {env : Env} {σ : L2.St} (h : RepE C ρ H env σ) : ∀ vs : List Nat, RepE C ρ H (wipeE env vs) (wipe σ vs)
  | [] => h
  | v :: vs => by
    have ih := wipeE_ok h vs
    refine ⟨by simp [wipeE, wipe, ih.len], fun j d e => ?_⟩
    unfold wipeE at e
    unfold wipe
    by_cases hj : v = j
    · subst hj
      by_cases hl : v < (wipeE env vs).length
      · rw [List.getElem?_set_self hl] at e
        cases e
      · rw [List.getElem?_eq_none (by simpa using hl)] at e
        cases e
    · rw [List.getElem?_set_ne hj] at e
      obtain ⟨u, h1, h2⟩ := ih.at' j d e
      exact ⟨u, by rw [List.getElem?_set_ne hj]; exact h1, h2⟩

/-! ### one object hidden -/
abbrev Zn.hide (ρ : Zn) (a : Addr) : Zn := ⟨ρ.r, a :: ρ.h⟩
section
variable {C : Cfg} {ρ ρ' : Zn} {H H' : Hp} {w : List D} {a : Addr} {o : HO}
theorem hide_new (hS : RepS C ρ H w) (ha : H a = none) : ExtR ρ (ρ.hide a) H (upd H a o) ∧ RepS C (ρ.hide a) (upd H a o) w := by
  have x : ExtR ρ (ρ.hide a) H (upd H a o) := ⟨⟨[], by simp⟩, fun b u e n => ⟨by rw [upd_ne (ne_of_none e ha)]; exact e, n.1, fun z => by
    rcases List.mem_cons.mp z with z | z
    · exact ne_of_none e ha z
    · exact n.2 z⟩⟩
  refine ⟨x, hS.len, hS.nd, fun i b d h1 h2 => ?_, fun b hb => ?_⟩
  · have hb : b ≠ a := fun e => (hS.fresh ha).1 (e ▸ List.mem_of_getElem? h1)
    have q := hS.obj i b d h1 h2
    cases d with
    | lst ds => obtain ⟨vs, e, r⟩ := q; exact ⟨vs, (upd_ne hb).trans e, Reps.extR x ds r⟩
    | dic ks ds => obtain ⟨vs, e, k, r⟩ := q; exact ⟨vs, (upd_ne hb).trans e, k, Reps.extR x ds r⟩
    | dct ks ds => obtain ⟨es, ep, as, vs, e, en, nd, rk, r⟩ := q; exact ⟨es, ep, as, vs, (upd_ne hb).trans e, en, nd, Reps.extR x ks rk, Reps.extR x ds r⟩
    | ins c ns ds => obtain ⟨A, dx, fs, m, e, k, r⟩ := q; exact ⟨A, dx, fs, m, (upd_ne hb).trans e, k, Reps.extR x ds r⟩
    | _ => exact (show False from q).elim
  · rcases List.mem_cons.mp hb with e | hb
    · subst e
      exact ⟨(hS.fresh ha).1, o, upd_same⟩
    · refine ⟨(hS.hid b hb).1, ?_⟩
      obtain ⟨u, e⟩ := (hS.hid b hb).2
      exact ⟨u, by rw [upd_ne (ne_of_none e ha)]; exact e⟩
/-- the hidden object is written -/
theorem hide_put (hS : RepS C ρ H w) (ha : a ∈ ρ.h) : ExtR ρ ρ H (upd H a o) ∧ RepS C ρ (upd H a o) w := by
  have x : ExtR ρ ρ H (upd H a o) := ⟨⟨[], by simp⟩, fun b u e n => ⟨by rw [upd_ne fun z => n.2 (by rw [z]; exact ha)]; exact e, n⟩⟩
  refine ⟨x, hS.len, hS.nd, fun i b d h1 h2 => ?_, fun b hb => ?_⟩
  · have hb : b ≠ a := fun e => (hS.hid a ha).1 (e ▸ List.mem_of_getElem? h1)
    have q := hS.obj i b d h1 h2
    cases d with
    | lst ds => obtain ⟨vs, e, r⟩ := q; exact ⟨vs, (upd_ne hb).trans e, Reps.extR x ds r⟩
    | dic ks ds => obtain ⟨vs, e, k, r⟩ := q; exact ⟨vs, (upd_ne hb).trans e, k, Reps.extR x ds r⟩
    | dct ks ds => obtain ⟨es, ep, as, vs, e, en, nd, rk, r⟩ := q; exact ⟨es, ep, as, vs, (upd_ne hb).trans e, en, nd, Reps.extR x ks rk, Reps.extR x ds r⟩
    | ins c ns ds => obtain ⟨A, dx, fs, m, e, k, r⟩ := q; exact ⟨A, dx, fs, m, (upd_ne hb).trans e, k, Reps.extR x ds r⟩
    | _ => exact (show False from q).elim
  · refine ⟨(hS.hid b hb).1, ?_⟩
    by_cases e : b = a
    · subst e
      exact ⟨o, upd_same⟩
    · obtain ⟨u, e2⟩ := (hS.hid b hb).2
      exact ⟨u, by rw [upd_ne e]; exact e2⟩
/-- .. and comes forth -/
theorem hide_end {h : List Addr} (hS : RepS C ρ H w) (hh : ρ.h = a :: h) : ExtR ρ ⟨ρ.r, h⟩ H H ∧ RepS C ⟨ρ.r, h⟩ H w := by
  have x : ExtR ρ ⟨ρ.r, h⟩ H H := ⟨⟨[], by simp⟩, fun b u e n => ⟨e, n.1, fun z => n.2 (by rw [hh]; exact List.mem_cons_of_mem _ z)⟩⟩
  refine ⟨x, hS.len, hS.nd, fun i b d h1 h2 => ?_, fun b hb => hS.hid b (by rw [hh]; exact List.mem_cons_of_mem _ hb)⟩
  have q := hS.obj i b d h1 h2
  cases d with
  | lst ds => obtain ⟨vs, e, r⟩ := q; exact ⟨vs, e, Reps.extR x ds r⟩
  | dic ks ds => obtain ⟨vs, e, k, r⟩ := q; exact ⟨vs, e, k, Reps.extR x ds r⟩
  | dct ks ds => obtain ⟨es, ep, as, vs, e, en, nd, rk, r⟩ := q; exact ⟨es, ep, as, vs, e, en, nd, Reps.extR x ks rk, Reps.extR x ds r⟩
  | ins c ns ds => obtain ⟨A, dx, fs, m, e, k, r⟩ := q; exact ⟨A, dx, fs, m, e, k, Reps.extR x ds r⟩
  | _ => exact (show False from q).elim
end

/-! ### a list comprehension -/
def M.calm {α : Type} (m : M α) : M α := fun ro w => match m ro w with
  | .ok a w' => .ok a w'
  | _ => .no
def W0 : WX := fun _ _ _ _ => False
def cYes : Env → M Bool := fun _ => M.pure true
def compR (t : Tg) (tt : Env → M Bool) (f : EF) (env : Env) : List D → M (List D)
  | [] => M.pure []
  | d :: ds => match t.put d env with
    | none => M.no
    | some env1 => M.bind (M.calm (tt env1)) fun b => if b = true then M.bind (M.calm (f env1)) fun x => M.bind (compR t tt f env ds) fun r => M.pure (x :: r) else compR t tt f env ds
/-- the items, at most as many as a list may have -/
def few (it : Env → M (List D)) : Env → M (List D) := fun env => M.bind (it env) fun ds => fun _ w => if ds.length ≤ sizeLine then .ok ds w else .no
def cComp (t : Tg) (own : List Nat) (it : Env → M (List D)) (tt : Env → M Bool) (f : EF) (k : List D → M D) : EF := fun env => M.bind (few it env) fun ds => M.bind (compR t tt f (wipeE env own) ds) k
/-- what becomes of the list: it stands still, or it may change -/
def kStill (ds : List D) : M D := M.pure (.lst ds)
def kMut (ds : List D) : M D := mNew (.lst ds)

section
variable {X : Cx} {C : Cfg} {W : WX} {σ : L2.St} {ρ : Zn} {H : Hp} {ro w : List D}
theorem calm_ok {α : Type} {m : M α} {a : α} {w' : List D} (h : M.calm m ro w = .ok a w') : m ro w = .ok a w' := by
  unfold M.calm at h
  split at h
  · rename_i e
    cases h
    exact e
  · cases h
theorem bind_ok {α β : Type} {m : M α} {f : α → M β} {b : β} {w' : List D} (h : M.bind m f ro w = .ok b w') : ∃ a w1, m ro w = .ok a w1 ∧ f a ro w1 = .ok b w' := by
  unfold M.bind at h
  split at h
  · exact ⟨_, _, by assumption, h⟩
  · cases h
  · cases h
theorem calm_never {α : Type} {m : M α} {o : Out α} (h : M.calm m ro w = o) : (∃ a w', o = .ok a w') ∨ o = .no := by
  subst h
  unfold M.calm
  split
  · exact .inl ⟨_, _, rfl⟩
  · exact .inr rfl
theorem compR_never {t : Tg} {tt : Env → M Bool} {f : EF} {env : Env} : ∀ (ds : List D) {w : List D}, (∃ r w', compR t tt f env ds ro w = .ok r w') ∨ compR t tt f env ds ro w = .no
  | [], w => .inl ⟨[], w, rfl⟩
  | d :: ds, w => by
    unfold compR
    cases t.put d env with
    | none => exact .inr rfl
    | some env1 =>
      dsimp only
      unfold M.bind
      rcases calm_never (m := tt env1) (ro := ro) (w := w) rfl with ⟨b, w1, e⟩ | e
      · rw [e]
        dsimp only
        cases b with
        | false =>
          rw [if_neg Bool.false_ne_true]
          exact compR_never ds
        | true =>
          rw [if_pos rfl]
          rcases calm_never (m := f env1) (ro := ro) (w := w1) rfl with ⟨x, w2, e2⟩ | e2
          · rw [e2]
            dsimp only
            rcases compR_never (t := t) (tt := tt) (f := f) (env := env) ds (w := w2) with ⟨r, w3, e3⟩ | e3
            · rw [e3]
              exact .inl ⟨_, _, rfl⟩
            · rw [e3]
              exact .inr rfl
          · rw [e2]
            exact .inr rfl
      · rw [e]
        exact .inr rfl
theorem ext_out {ρ1 ρ ρ4 : Zn} {H1 H H4 : Hp} {D0 : Addr} (xo : Ext ρ1 ⟨ρ.r, ρ1.h⟩ H1 H) (hh : ρ.h = D0 :: ρ1.h) (hD : H1 D0 = none) (y : Ext ρ ρ4 H H4) : Ext ρ1 ⟨ρ4.r, ρ1.h⟩ H1 H4 := by
  obtain ⟨⟨ν, p1⟩, h1, k1, m1⟩ := xo
  obtain ⟨⟨μ, p2⟩, h2, k2, m2⟩ := y
  refine ⟨⟨ν ++ μ, by rw [p2, show ρ.r = ρ1.r ++ ν from p1, List.append_assoc]⟩, rfl, fun a o e n => ?_, fun a ha => (m2 a (by rw [hh]; exact List.mem_cons_of_mem _ ha)).trans (m1 a ha)⟩
  obtain ⟨e1, n1⟩ := k1 a o e n
  obtain ⟨e2, n2⟩ := k2 a o e1 ⟨n1.1, fun z => by
    rw [hh] at z
    rcases List.mem_cons.mp z with z | z
    · exact ne_of_none e hD z
    · exact n.2 z⟩
  exact ⟨e2, n2.1, n.2⟩
theorem ext_outR {ρ1 ρ : Zn} {H1 H : Hp} {D0 : Addr} (xo : Ext ρ1 ⟨ρ.r, ρ1.h⟩ H1 H) (hh : ρ.h = D0 :: ρ1.h) (hD : H1 D0 = none) : ExtR ρ1 ρ H1 H := ⟨xo.pre, fun a o e n => by
  obtain ⟨e1, n1⟩ := xo.keep a o e n
  exact ⟨e1, n1.1, fun z => by
    rw [hh] at z
    rcases List.mem_cons.mp z with z | z
    · exact ne_of_none e hD z
    · exact n.2 z⟩⟩
theorem ext_upd {ρ1 ρ2 : Zn} {H1 H : Hp} {D0 : Addr} {o : HO} (xo : Ext ρ1 ρ2 H1 H) (hD : H1 D0 = none) (hh : D0 ∉ ρ1.h) : Ext ρ1 ρ2 H1 (upd H D0 o) :=
  ⟨xo.pre, xo.hid, fun a u e n => ⟨by rw [upd_ne (ne_of_none e hD)]; exact (xo.keep a u e n).1, (xo.keep a u e n).2⟩, fun a ha => by rw [upd_ne fun e => hh (by rw [← e]; exact ha)]; exact xo.same a ha⟩
/-- the turns: from `acc` at D on -/
theorem lc_ok {t : Tg} {own : List Nat} {tt : Env → M Bool} {f : EF} {env : Env} {ds : List D} {J : It} {Qd : Hp → Prop} {w1 : List D} {r : List D} {wf : List D} {ρ1 : Zn} {H1 : Hp} {D0 : Addr}
    (ht : ∀ i ∈ t.slots, i ∈ own) (hn : ds.length ≤ sizeLine) (walk : Walks C ρ1 H1 ds J) (s1 : RepS C ρ1 H1 (ro ++ w1)) (e1 : RepE C ρ1 H1 env σ) (hD : H1 D0 = none)
    (hr : compR t tt f (wipeE env own) ds ro w1 = .ok r wf)
    (k : ∀ (ρ2 : Zn) H2 vs, Ext ρ1 ⟨ρ2.r, ρ1.h⟩ H1 H2 → ρ2.h = D0 :: ρ1.h → RepS C ρ2 H2 (ro ++ wf) → H2 D0 = some (.lst vs) → Reps C ρ2 H2 r vs → Qd H2) :
    ∃ W : Nat → Nat → Hp → Prop, (∃ m, W 0 m (upd H1 D0 (.lst []))) ∧ ∀ i m H, W i m H →
      (J.stop i H ∧ Qd H) ∨ (J.go i H ∧ ∃ Nx : Hp → Prop, (∀ H', Nx H' → ∃ m', m' < m ∧ W (i + 1) m' H') ∧ ∀ x H', J.yld i H x H' → t.g C.K x (wipe σ own) H' fun σ2 H2 => wipe σ2 own = wipe σ own ∧ tT C W0 tt σ2 H2 fun b H3 =>
        if b = true then tE C W0 f σ2 H3 fun y H4 => ∃ acc, H4 D0 = some (.lst acc) ∧ acc.length < sizeLine ∧ Nx (upd H4 D0 (.lst (acc ++ [y]))) else Nx H3) := by
  -- what holds at turn i
  let I : Nat → Hp → Prop := fun i H => ∃ ρ w acc vs r2, Ext ρ1 ⟨ρ.r, ρ1.h⟩ H1 H ∧ ρ.h = D0 :: ρ1.h ∧ RepS C ρ H (ro ++ w) ∧ RepE C ρ H (wipeE env own) (wipe σ own) ∧ H D0 = some (.lst vs) ∧ Reps C ρ H acc vs ∧ acc.length ≤ i ∧
    compR t tt f (wipeE env own) (ds.drop i) ro w = .ok r2 wf ∧ r = acc ++ r2
  have h0 : I 0 (upd H1 D0 (.lst [])) := by
    obtain ⟨x, s⟩ := hide_new (o := .lst []) s1 hD
    refine ⟨ρ1.hide D0, w1, [], [], r, ⟨⟨[], by simp⟩, rfl, fun a o e n => ⟨by rw [upd_ne (ne_of_none e hD)]; exact e, n⟩, fun a ha => upd_ne fun e => (s1.fresh hD).2 (e ▸ ha)⟩, rfl, s, wipeE_ok (e1.extR x) own, upd_same, rfl, Nat.le_refl _, hr, rfl⟩
  refine ⟨fun i m H => i + m = ds.length ∧ I i H, ⟨ds.length, by omega, h0⟩, fun i m H ⟨hm, ρ, w, acc, vs, r2, xo, hh, s, e, hDv, hacc, hai, hcomp, hr2⟩ => ?_⟩
  have wk := walk i ρ H _ (ext_outR xo hh hD) s
  have hDm : D0 ∈ ρ.h := by rw [hh]; exact List.mem_cons_self
  cases hd : ds[i]? with
  | none =>
    have hl := List.getElem?_eq_none_iff.mp hd
    rw [List.drop_eq_nil_of_le hl] at hcomp
    cases (show (Out.ok [] w : Out (List D)) = .ok r2 wf from hcomp)
    refine .inl ⟨wk.2 hd, k ρ H vs xo hh s hDv ?_⟩
    rw [hr2, List.append_nil]
    exact hacc
  | some d =>
    have hl := (List.getElem?_eq_some_iff.mp hd).1
    have hdrop : ds.drop i = d :: ds.drop (i + 1) := by
      rw [List.drop_eq_getElem_cons hl, (List.getElem?_eq_some_iff.mp hd).2]
    rw [hdrop] at hcomp
    obtain ⟨go, yl⟩ := wk.1 d hd
    refine .inr ⟨go, fun H' => I (i + 1) H', fun H' h => ⟨m - 1, by omega, by omega, h⟩, fun y H' hy => ?_⟩
    obtain ⟨x3, s3, r3⟩ := yl y H' hy
    unfold compR at hcomp
    cases hput : t.put d (wipeE env own) with
    | none =>
      simp only [hput] at hcomp
      cases hcomp
    | some env1 =>
      simp only [hput] at hcomp
      obtain ⟨b, w4, hb, hcomp⟩ := bind_ok hcomp
      replace hb := calm_ok hb
      refine Tg.ok (e.ext x3) r3 hput fun us e3 => ⟨wipe_set ht, ρ, env1, ro, w, s3, e3, ?_⟩
      rw [hb]
      intro b' ρ4 H4 x4 s4 rb
      cases (show b = b' from rb)
      have e4 := e3.ext x4
      have xo4 := ext_out (ext_out xo hh hD x3) hh hD x4
      have hh4 : ρ4.h = D0 :: ρ1.h := x4.hid.trans hh
      have hDv4 : H4 D0 = some (.lst vs) := by rw [x4.same D0 hDm, x3.same D0 hDm]; exact hDv
      cases b with
      | false =>
        rw [if_neg Bool.false_ne_true] at hcomp ⊢
        exact ⟨ρ4, w4, acc, vs, r2, xo4, hh4, s4, (e.ext x3).ext x4, hDv4, Reps.ext x4 acc (Reps.ext x3 acc hacc), by omega, hcomp, hr2⟩
      | true =>
        rw [if_pos rfl] at hcomp ⊢
        obtain ⟨x, w5, hx, hcomp⟩ := bind_ok hcomp
        obtain ⟨r5, w6, hr5, hcomp⟩ := bind_ok hcomp
        cases (show (Out.ok (x :: r5) w6 : Out (List D)) = .ok r2 wf from hcomp)
        replace hx := calm_ok hx
        refine ⟨ρ4, env1, ro, w4, s4, e4, ?_⟩
        rw [hx]
        intro z ρ5 H5 x5 s5 r5'
        have hDm4 : D0 ∈ ρ4.h := by rw [hh4]; exact List.mem_cons_self
        have hh5 : ρ5.h = D0 :: ρ1.h := x5.hid.trans hh4
        have hDm5 : D0 ∈ ρ5.h := by rw [hh5]; exact List.mem_cons_self
        have hDv5 : H5 D0 = some (.lst vs) := by rw [x5.same D0 hDm4]; exact hDv4
        have hacc5 := Reps.ext x5 acc (Reps.ext x4 acc (Reps.ext x3 acc hacc))
        refine ⟨vs, hDv5, by rw [← hacc5.len]; omega, ?_⟩
        obtain ⟨x6, s6⟩ := hide_put (o := .lst (vs ++ [z])) s5 hDm5
        refine ⟨ρ5, w5, acc ++ [x], vs ++ [z], r5, ext_upd (ext_out xo4 hh4 hD x5) hD (s1.fresh hD).2, hh5, s6, (((e.ext x3).ext x4).ext x5).extR x6, upd_same, (Reps.extR x6 acc hacc5).append (Reps.one (Rep.extR x6 x r5')), by simp; omega, hr5, by rw [hr2]; simp⟩
end

section
variable {X : Cx} {W : WX} {pos p pos' : Pos} {elt tg iter : Expr} {ifs : List Expr} {scope : Scope} {own : List (Str × Nat)} {it : Env → M (List D)} {tt : Env → M Bool} {f : EF} {t : Tg}
/-- what stands behind the comprehension -/
def KOk (C : Cfg) (k : List D → M D) : Prop := ∀ (W : WX) (σ : L2.St) (ρ1 ρ2 : Zn) (H1 H2 : Hp) (ro w r v1 : List D) (a : Addr) (vs : List V) (Q : VK), RepS C ρ1 H1 v1 → Ext ρ1 ⟨ρ2.r, ρ1.h⟩ H1 H2 → ρ2.h = a :: ρ1.h → RepS C ρ2 H2 (ro ++ w) → H1 a = none → H2 a = some (.lst vs) → Reps C ρ2 H2 r vs →
  AfterR C (Rep C) W σ ρ1 H1 ro (k r ro w) Q → Q (.ref a) H2
theorem kStill_ok {C : Cfg} : KOk C kStill := fun W σ ρ1 ρ2 H1 H2 ro w r v1 a vs Q s1 x hh s ha e hr q => by
  obtain ⟨xe, se⟩ := hide_end s hh
  exact q (.ref a) _ H2 x se ⟨a, vs, rfl, .inl ⟨⟨(s.hid a (by rw [hh]; exact List.mem_cons_self)).1, (s1.fresh ha).2⟩, .inl e⟩, Reps.extR xe r hr⟩
theorem kMut_ok {C : Cfg} : KOk C kMut := fun W σ ρ1 ρ2 H1 H2 ro w r v1 a vs Q s1 x hh s ha e hr q => by
  have am : a ∈ ρ2.h := by rw [hh]; exact List.mem_cons_self
  have an := (s.hid a am).1
  have xe : ExtR ρ2 ⟨ρ2.r ++ [a], ρ1.h⟩ H2 H2 := ⟨⟨[a], rfl⟩, fun b u eb n => ⟨eb, by
    show b ∉ ρ2.r ++ [a]
    rw [List.mem_append, not_or]
    exact ⟨n.1, fun z => n.2 (by rw [List.mem_singleton.mp z]; exact am)⟩, fun z => n.2 (by rw [hh]; exact List.mem_cons_of_mem _ z)⟩⟩
  have se : RepS C ⟨ρ2.r ++ [a], ρ1.h⟩ H2 ((ro ++ w) ++ [.lst r]) := by
    refine ⟨by simp [s.len]; omega, ?_, fun i b d' h1 h2 => ?_, fun b hb => ⟨?_, (s.hid b (by rw [hh]; exact List.mem_cons_of_mem _ hb)).2⟩⟩
    · show (ρ2.r ++ [a]).Nodup
      rw [List.nodup_append]
      refine ⟨s.nd, by simp, fun b hb c hc e' => ?_⟩
      rw [List.mem_singleton] at hc
      rw [e', hc] at hb
      exact an hb
    · replace h1 : (ρ2.r ++ [a])[i]? = some b := h1
      by_cases hi : i < ρ2.r.length
      · rw [List.getElem?_append_left hi] at h1
        rw [List.getElem?_append_left (by rw [← s.len]; exact hi)] at h2
        have q' := s.obj i b d' h1 h2
        cases d' with
        | lst ds => obtain ⟨vs, e, r⟩ := q'; exact ⟨vs, e, Reps.extR xe ds r⟩
        | dic ks ds => obtain ⟨vs, e, k, r⟩ := q'; exact ⟨vs, e, k, Reps.extR xe ds r⟩
        | dct ks ds => obtain ⟨es, ep, as, vs, e, en, nd, rk, r⟩ := q'; exact ⟨es, ep, as, vs, e, en, nd, Reps.extR xe ks rk, Reps.extR xe ds r⟩
        | ins c ns ds => obtain ⟨A, dx, fs, m, e, k, r⟩ := q'; exact ⟨A, dx, fs, m, e, k, Reps.extR xe ds r⟩
        | _ => exact (show False from q').elim
      · have hl := (List.getElem?_eq_some_iff.mp h1).1
        rw [List.length_append, List.length_singleton] at hl
        have ei : i = ρ2.r.length := by omega
        subst ei
        rw [List.getElem?_append_right (Nat.le_refl _), Nat.sub_self] at h1
        rw [List.getElem?_append_right (by rw [s.len]; exact Nat.le_refl _), s.len, Nat.sub_self] at h2
        simp only [List.getElem?_cons_zero, Option.some.injEq] at h1 h2
        subst h1
        subst h2
        exact ⟨vs, e, Reps.extR xe r hr⟩
    · show b ∉ ρ2.r ++ [a]
      rw [List.mem_append, not_or]
      exact ⟨(s.hid b (by rw [hh]; exact List.mem_cons_of_mem _ hb)).1, fun z => (s1.fresh ha).2 (by rw [← List.mem_singleton.mp z]; exact hb)⟩
  refine q (.ref a) ⟨ρ2.r ++ [a], ρ1.h⟩ H2 ⟨?_, rfl, fun b u eb n => ⟨(x.keep b u eb n).1, ?_, n.2⟩, x.same⟩ ?_ ⟨a, ?_, rfl⟩
  · obtain ⟨ν, p⟩ := x.pre
    exact ⟨ν ++ [a], by show ρ2.r ++ [a] = _; rw [show ρ2.r = ρ1.r ++ ν from p, List.append_assoc]⟩
  · show b ∉ ρ2.r ++ [a]
    rw [List.mem_append, not_or]
    exact ⟨(x.keep b u eb n).2.1, fun z => ne_of_none eb ha (List.mem_singleton.mp z)⟩
  · rw [← List.append_assoc]
    exact se
  · show (ρ2.r ++ [a])[_]? = _
    rw [← s.len, List.getElem?_append_right (Nat.le_refl _), Nat.sub_self]
    rfl
theorem tE_comp {k : List D → M D} (hk : KOk (cfg X) k) (ht : ∀ i ∈ t.slots, i ∈ own.map (·.2)) {σ : L2.St} {H : Hp} {Q : VK} (q : tE (cfg X) W (cComp t (own.map (·.2)) it tt f k) σ H Q) :
    tLc (tI (cfg X) W it) (t.g X.K) (tT (cfg X) W0 tt) (tE (cfg X) W0 f) (own.map (·.2)) σ H Q := by
  obtain ⟨ρ, env, ro, w, hS, hE, q⟩ := q
  unfold cComp few at q
  unfold M.bind at q
  refine ⟨ρ, env, ro, w, hS, hE, ?_⟩
  cases ei : it env ro w with
  | no =>
    simp only [M.bind, ei] at q
    exact q
  | exn c ns xs w1 =>
    simp only [M.bind, ei] at q
    exact q
  | ok ds w1 =>
    simp only [M.bind, ei] at q
    by_cases hn : ds.length ≤ sizeLine
    · simp only [if_pos hn] at q
      intro J ρ1 H1 x1 s1 walk D0 hD
      rcases compR_never (t := t) (tt := tt) (f := f) (env := wipeE env (own.map (·.2))) (ro := ro) ds (w := w1) with ⟨r, wf, hr⟩ | hr
      · simp only [hr] at q
        exact lc_ok (C := cfg X) ht hn walk s1 (hE.ext x1) hD hr fun ρ2 H2 vs x2 hh s2 e2 r2 => hk W σ ρ1 ρ2 H1 H2 ro wf r _ D0 vs Q s1 x2 hh s2 hD e2 r2 (AfterR.ext x1 q)
      · simp only [hr] at q
        exact (show False from q).elim
    · simp only [if_neg hn] at q
      exact (show False from q).elim
theorem pf_lc {k : List D → M D} (hk : KOk (cfg X) k) (ht : ∀ i ∈ t.slots, i ∈ own.map (·.2)) (hc : X.calm = true) (hN : X.N.Nodup) (hi : PI X tg iter (tI (cfg X) W it)) (ok : BlkOk X.N X.env.scope scope own)
    (hg : ∀ (s : Shared) (H : Hp) (C : Addr) (cl : List (Str × Addr)) (fp : List Addr), PG (X.blk s H scope (compEnvC scope cl C X.env) fp) tg (t.g X.K)) (hq : ∀ (s : Shared) (H : Hp) (C : Addr) (cl : List (Str × Addr)) (fp : List Addr), PTs (X.blk s H scope (compEnvC scope cl C X.env) fp) ifs (tT (cfg X) W0 tt))
    (he : ∀ (s : Shared) (H : Hp) (C : Addr) (cl : List (Str × Addr)) (fp : List Addr), PE (X.blk s H scope (compEnvC scope cl C X.env) fp) elt (tE (cfg X) W0 f)) (hs : ∀ x, foldedSetIterable iter X.env x = pure x := by intro _; rfl) :
    PE X (.ListComp elt [⟨tg, iter, ifs, 0⟩] scope pos) (tE (cfg X) W (cComp t (own.map (·.2)) it tt f k)) := pe_imp (pe_lc hc hN hi ok hg hq he hs) fun _ _ _ q => tE_comp hk ht q
theorem f_setLc {k : List D → M D} (i : Nat) {y : Str} {py : Pos} (hk : KOk (cfg X) k) (ht : ∀ i ∈ t.slots, i ∈ own.map (·.2)) (hc : X.calm = true) (hN : X.N.Nodup) (hsw : swapsWith (.ListComp elt [⟨tg, iter, ifs, 0⟩] scope pos) (some (.Name y py)) pos'.line X.env = pure true) (hi : PI X tg iter (tI (cfg X) W it)) (ok : BlkOk X.N X.env.scope scope own)
    (hg : ∀ (s : Shared) (H : Hp) (C : Addr) (cl : List (Str × Addr)) (fp : List Addr), PG (X.blk s H scope (compEnvC scope cl C X.env) fp) tg (t.g X.K)) (hq : ∀ (s : Shared) (H : Hp) (C : Addr) (cl : List (Str × Addr)) (fp : List Addr), PTs (X.blk s H scope (compEnvC scope cl C X.env) fp) ifs (tT (cfg X) W0 tt))
    (he : ∀ (s : Shared) (H : Hp) (C : Addr) (cl : List (Str × Addr)) (fp : List Addr), PE (X.blk s H scope (compEnvC scope cl C X.env) fp) elt (tE (cfg X) W0 f)) (hs : ∀ x, foldedSetIterable iter X.env x = pure x := by intro _; rfl) (hy : X.N[i]? = some y := by rfl) (hyl : X.env.scope.names.lookup y = some .local := by rfl) :
    PS X (.Assign [.Name y py] (.ListComp elt [⟨tg, iter, ifs, 0⟩] scope pos) pos') (tS (cfg X) W (sSet i (cComp t (own.map (·.2)) it tt f k))) := ps_imp (ps_setLc hc hN hy hyl hsw hi ok hg hq he hs) fun D σ H ⟨ρ, env, ro, w, hS, hE, q⟩ => by
  refine tE_comp hk ht ?_
  exact tS_seq hS hE q fun d w1 v ρ1 H1 x1 s1 e1 r1 q1 => q1 _ ρ1 H1 .refl s1 (e1.set r1)
theorem fts_nil {C : Cfg} : PTs X [] (tT C W cYes) := ⟨fun pins s σ H Q I q => pts_nil.run pins s σ H Q I (by
  obtain ⟨ρ, env, ro, w, hS, hE, q⟩ := q
  exact q true ρ H .refl hS rfl)⟩
theorem fts_one {C : Cfg} {c : Expr} (h : PT X c (tT C W tt)) : PTs X [c] (tT C W tt) := pts_one h
end
end Fx
namespace Fx
open PySem PySem.Spec L2

/-! ### a def's promise -/
def spF (C : Cfg) (g : List D → M D) (n : Nat) : Sp := fun vs H Q E => ∃ ρ ds ro w, vs.length = n ∧ RepS C ρ H (ro ++ w) ∧ Reps C ρ H ds vs ∧ AfterR C (Rep C) (fun c d _ H => E c d H) [] ρ H ro (g ds ro w) Q
/-- a def of the top, by its name, keeps it with n calls -/
structure CallOk (P : Program) (w : World) (K : PySem.W.Frag) (mg : Str → Option Value) (base : Heap) (n : Nat) (x : Str) (g : List D → M D) (np : Nat) : Prop where
  ex : ∃ a fd ps, mg x = some (.ref a) ∧ PySem.W.keepIn K (.ref a) = true ∧ Binds K fd ps [] ∧ ps.length = np ∧ FnOk P w K mg base (L2.CX P w) n a fd ps (spF ⟨K, mg, w⟩ g np)
abbrev CallX (X : Cx) (n : Nat) (x : Str) (g : List D → M D) (np : Nat) : Prop := CallOk X.prog X.w X.K X.mg X.base n x g np
/-- what is raised in a call is what this place wishes -/
abbrev PassW (X : Cx) (W : WX) : Prop := ∀ σ, PassesAt (L2.CX X.prog X.w) X σ (WE W σ)
theorem pass_of {X : Cx} {W : WX} (tk : Takes X W) : PassW X W := fun σ => passAt tk σ
theorem pass_0 {X : Cx} : PassW X W0 := fun σ _ _ _ _ _ _ h => by
  obtain ⟨_, _, _, _, _, _, _, _, _, _, _, _, z⟩ := h
  exact (show False from z).elim
section
variable {X : Cx} {W : WX} {pos p : Pos} {e : Expr} {es : List Expr} {x : Str} {g : List D → M D} {np n : Nat} {fs : Env → M (List D)}
theorem AfterR.sig {α β : Type} {C : Cfg} {R : Zn → Hp → α → β → Prop} {W : WX} {σ : L2.St} {ρ : Zn} {H : Hp} {ro : List D} {o : Out α} {Q : β → Hp → Prop} (h : AfterR C R W σ ρ H ro o Q) : AfterR C R (fun c d _ H => W c d σ H) [] ρ H ro o Q := by
  cases o with
  | ok d w => exact h
  | exn c ns xs w => exact h
  | no => exact h
theorem pf_call (F : CallX X n x g np) (hr : Room n X.A) (hx : PassW X W) (hg : Gl X x) (ha : PA X (e :: es) (tA (cfg X) W fs)) (hdb : (x == ("__debug__" : Str)) = false := by decide) (hl : ∀ ds : List D, ds.length = np → True := by intros; trivial)
    (he : starEach (e :: es) X.env = (false, eval e X.env) :: starEach es X.env := by rfl) (hpl : (backTo pos (starEach es X.env)).any (·.1) = false := by rfl) : PE X (.Call (.Name x p) (e :: es) [] pos) (tE (cfg X) W (cCall (fun ds => if ds.length = np then g ds else M.no) fs)) := by
  obtain ⟨a, fd, ps, hm, hk, hb, hps, ok⟩ := F.ex
  refine pe_imp (pe_callS ok hr hg hm hk hb hx ha hdb he hpl) fun σ H Q ⟨ρ, env, ro, w, hS, hE, q⟩ => ?_
  refine tR_seq hS hE q fun ds w1 vs ρ1 H1 x1 s1 r1 q1 => ?_
  by_cases c : ds.length = np
  · rw [if_pos c] at q1
    exact ⟨ρ1, ds, ro, w1, by rw [← r1.len]; exact c, s1, r1, q1.sig⟩
  · rw [if_neg c] at q1
    exact (show False from q1).elim
def cCall0 (g : List D → M D) : EF := fun _ => g []
end

/-! ### a def by its body -/
def runDef (np N : Nat) (body : SF) : List D → M D := fun ds ro w => if ds.length = np then (match body (ds.map some ++ List.replicate (N - np) none) ro w with
  | .go .nx _ w' => .ok .non w'
  | .go (.rt d) _ w' => .ok d w'
  | .exn c ns xs _ w' => .exn c ns xs w'
  | _ => .no) else .no
theorem reps_start {C : Cfg} {ρ : Zn} {H : Hp} {N : List Str} {ds : List D} {vs : List V} (r : Reps C ρ H ds vs) : RepE C ρ H (ds.map some ++ List.replicate (N.length - ds.length) none) (L2.start N vs) := by
  unfold L2.start
  refine ⟨by simp [r.len], fun i d e => ?_⟩
  by_cases hi : i < ds.length
  · rw [List.getElem?_append_left (by simpa using hi), List.getElem?_map] at e
    cases q : ds[i]? with
    | none =>
      rw [q] at e
      cases e
    | some d' =>
      rw [q] at e
      cases e
      obtain ⟨v, h1, h2⟩ := r.get q
      have hv := (List.getElem?_eq_some_iff.mp h1).1
      exact ⟨v, by rw [List.getElem?_append_left (by simpa using hv), List.getElem?_map, h1]; rfl, h2⟩
  · rw [List.getElem?_append_right (by simpa using hi), List.getElem?_replicate] at e
    split at e <;> cases e
section
variable {P : Program} {w : World} {K : PySem.W.Frag} {mg : Str → Option Value} {base : Heap}
theorem def_ok {x qual : Str} {st : Stmt} {f : Addr} {fd : FuncData} {N ps : List Str} {k : Nat} {body : SF} (F : Fun K x qual st f fd) (S : FnScope N ps (defScope st))
    (h : ∀ (cdv : Value) (A : Around) (outer : List PySem.Env) (s : Shared) (H : Hp) (E : XK), Room k (A.deeper (PyProof.Rows.envOfC qual (defScope st) s.heap.objs.size f cdv)) →
      PSs (cxOf (L2.CX P w) P w K mg base N qual (defScope st) f cdv A outer s H E) (defBody st) (tS ⟨K, mg, w⟩ (fun c d _ H => E c d H) body)) :
    FnOk P w K mg base (L2.CX P w) (k + 1) f fd ps (spF ⟨K, mg, w⟩ (runDef ps.length N.length body) ps.length) := by
  refine F.okX S (fun vs H Q E h => ?_) fun cdv A outer s H vs Q E hr hsp => ?_
  · obtain ⟨ρ, ds, ro, w, hl, _⟩ := h
    exact hl
  · refine ⟨_, h cdv A outer s H E hr, ?_⟩
    obtain ⟨ρ, ds, ro, wl, hl, hS, hR, q⟩ := hsp
    have hdl : ds.length = ps.length := by rw [hR.len]; exact hl
    refine ⟨ρ, ds.map some ++ List.replicate (N.length - ds.length) none, ro, wl, hS, reps_start hR, ?_⟩
    unfold runDef at q
    rw [if_pos hdl, ← hdl] at q
    cases e : body (ds.map some ++ List.replicate (N.length - ds.length) none) ro wl with
    | no =>
      rw [e] at q
      exact q
    | exn c ns xs env w' =>
      rw [e] at q
      exact fun cls dx σ' ρ' H' x s e2 rx => q cls dx ρ' H' x s rx
    | go fl env w' =>
      rw [e] at q
      cases fl with
      | nx => exact fun σ' ρ' H' x s e2 => q .non ρ' H' x s rfl
      | rt d => exact fun v ρ' H' x s r => q v ρ' H' x s r
      | bk => exact (show False from q).elim
      | ct => exact (show False from q).elim
/-- nothing is promised -/
theorem no_ok {f : Addr} {fd : FuncData} {ps : List Str} {k : Nat} : FnOk P w K mg base (L2.CX P w) k f fd ps (spF ⟨K, mg, w⟩ (fun _ => M.no) ps.length) := by
  have no : ∀ vs H Q E, ¬ spF ⟨K, mg, w⟩ (fun _ => M.no) ps.length vs H Q E := fun vs H Q E h => by
    obtain ⟨ρ, ds, ro, w, _, _, _, q⟩ := h
    exact q
  exact ⟨fun vs H Q E h => absurd h (no vs H Q E), fun A outer s H args us vs Q E _ _ _ _ h => absurd h (no vs H Q E)⟩
end

/-! ### things that end with a call -/
mutual
/-- the changing objects told by φ -/
def D.tell (φ : Nat → Option D) : D → Option D
  | .ref n => φ n
  | .tup ds => (D.tells φ ds).map .tup
  | .lst ds => (D.tells φ ds).map .lst
  | .dic ks ds => (D.tells φ ds).map (.dic ks)
  | .dct ks ds => (D.tells φ ds).map (.dct ks)
  | .ins c ns ds => (D.tells φ ds).map (.ins c ns)
  | d => some d
def D.tells (φ : Nat → Option D) : List D → Option (List D)
  | [] => some []
  | d :: ds => match D.tell φ d, D.tells φ ds with
    | some d', some ds' => some (d' :: ds')
    | _, _ => none
end
/-- n: how many objects the caller has; w: the own ones -/
def told (n : Nat) (w : List D) : Nat → Nat → Option D
  | 0, m => if m < n then some (.ref m) else none
  | k + 1, m => if m < n then some (.ref m) else match w[m - n]? with
    | some o => D.tell (told n w k) o
    | none => none
mutual
def D.under (n : Nat) : D → Bool
  | .ref m => decide (m < n)
  | .tup ds => D.unders n ds
  | .lst ds => D.unders n ds
  | .dic _ ds => D.unders n ds
  | .dct _ ds => D.unders n ds
  | .ins _ _ ds => D.unders n ds
  | _ => true
def D.unders (n : Nat) : List D → Bool
  | [] => true
  | d :: ds => D.under n d && D.unders n ds
end
section
variable {C : Cfg} {ρ ρ' : Zn} {H H' : Hp} {n : Nat}
abbrev Zn.take (ρ : Zn) (n : Nat) : Zn := ⟨ρ.r.take n, ρ.h⟩
theorem Out.take {a : Addr} (h : ρ.Out a) : (ρ.take n).Out a := ⟨fun z => h.1 (List.mem_of_mem_take z), h.2⟩
theorem Still.take {a : Addr} {u : HO} (h : Still ρ H a u) : Still (ρ.take n) H a u := ⟨Out.take h.1, h.2⟩
mutual
/-- what is a key holds nothing that changes -/
theorem Rep.ktrunc : ∀ (d : D) {v : V} {κ : NestedKey}, toKey d = some κ → Rep C ρ H d v → Rep C (ρ.take n) H d v
  | .int _, v, κ, _, h => h
  | .str _, v, κ, _, h => h
  | .tup ds, v, κ, e, ⟨a, vs, e1, h1, r⟩ => by
    unfold toKey at e
    cases q : toKeys ds with
    | none => rw [q] at e; cases e
    | some ks => exact ⟨a, vs, e1, h1.imp Still.take id, Reps.ktrunc ds q r⟩
  | .non, v, κ, e, _ => by cases e
  | .bl _, v, κ, e, _ => by cases e
  | .fn _, v, κ, e, _ => by cases e
  | .rng _, v, κ, e, _ => by cases e
  | .ref _, v, κ, e, _ => by cases e
  | .lst _, v, κ, e, _ => by cases e
  | .dic _ _, v, κ, e, _ => by cases e
  | .dct _ _, v, κ, e, _ => by cases e
  | .ins _ _ _, v, κ, e, _ => by cases e
theorem Reps.ktrunc : ∀ (ds : List D) {vs : List V} {ks : List NestedKey}, toKeys ds = some ks → Reps C ρ H ds vs → Reps C (ρ.take n) H ds vs
  | [], vs, ks, _, h => h
  | d :: ds, vs, ks, e, ⟨v, r, ev, h1, h2⟩ => by
    unfold toKeys at e
    cases q1 : toKey d with
    | none => simp only [q1] at e; cases e
    | some d1 =>
      cases q2 : toKeys ds with
      | none => simp only [q1, q2] at e; cases e
      | some ds2 => exact ⟨v, r, ev, Rep.ktrunc d q1 h1, Reps.ktrunc ds q2 h2⟩
end
theorem DEnts.trunc {w : World} {es : List DictEntry} {ks : List D} {as : List Addr} {vs : List V} (en : DEnts w es ks as vs) : Reps C ρ H ks (as.map .ref) → Reps C (ρ.take n) H ks (as.map .ref) := by
  induction en with
  | nil => exact id
  | cons h1 _ _ _ _ _ ih =>
    rintro ⟨v, r, ev, k1, k2⟩
    simp only [List.map_cons, List.cons.injEq] at ev
    obtain ⟨e1, e2⟩ := ev
    subst e1 e2
    exact ⟨_, _, rfl, Rep.ktrunc _ h1 k1, ih k2⟩
mutual
theorem Rep.tell {φ : Nat → Option D} (hφ : ∀ m d v, φ m = some d → Rep C ρ H (.ref m) v → Rep C (ρ.take n) H d v) : ∀ (d : D) {d' : D} {v : V}, D.tell φ d = some d' → Rep C ρ H d v → Rep C (ρ.take n) H d' v
  | .non, d', v, e, h => by cases e; exact h
  | .bl b, d', v, e, h => by cases e; exact h
  | .int b, d', v, e, h => by cases e; exact h
  | .str b, d', v, e, h => by cases e; exact h
  | .fn b, d', v, e, h => by cases e; exact h
  | .rng b, d', v, e, h => by
    cases e
    obtain ⟨a, e1, h1⟩ := h
    exact ⟨a, e1, Still.take h1⟩
  | .ref m, d', v, e, h => hφ m d' v e h
  | .tup ds, d', v, e, h => by
    unfold D.tell at e
    cases q : D.tells φ ds with
    | none => rw [q] at e; cases e
    | some ds' =>
      rw [q] at e
      cases e
      obtain ⟨a, vs, e1, h1, r⟩ := h
      exact ⟨a, vs, e1, h1.imp Still.take id, Reps.tell hφ ds q r⟩
  | .lst ds, d', v, e, h => by
    unfold D.tell at e
    cases q : D.tells φ ds with
    | none => rw [q] at e; cases e
    | some ds' =>
      rw [q] at e
      cases e
      obtain ⟨a, vs, e1, h1, r⟩ := h
      exact ⟨a, vs, e1, h1.imp Still.take id, Reps.tell hφ ds q r⟩
  | .dic ks ds, d', v, e, h => by
    unfold D.tell at e
    cases q : D.tells φ ds with
    | none => rw [q] at e; cases e
    | some ds' =>
      rw [q] at e
      cases e
      obtain ⟨a, kvs, e1, h1, k, r⟩ := h
      exact ⟨a, kvs, e1, Still.take h1, k, Reps.tell hφ ds q r⟩
  | .dct ks ds, d', v, e, h => by
    unfold D.tell at e
    cases q : D.tells φ ds with
    | none => rw [q] at e; cases e
    | some ds' =>
      rw [q] at e
      cases e
      obtain ⟨a, es, ep, as, vs, e1, h1, en, nd, rk, r⟩ := h
      exact ⟨a, es, ep, as, vs, e1, Still.take h1, en, nd, en.trunc rk, Reps.tell hφ ds q r⟩
  | .ins c ns ds, d', v, e, h => by
    unfold D.tell at e
    cases q : D.tells φ ds with
    | none => rw [q] at e; cases e
    | some ds' =>
      rw [q] at e
      cases e
      obtain ⟨a, A, dx, fs, e1, m, nn, h1, k, r⟩ := h
      exact ⟨a, A, dx, fs, e1, m, Out.take nn, h1, k, Reps.tell hφ ds q r⟩
theorem Reps.tell {φ : Nat → Option D} (hφ : ∀ m d v, φ m = some d → Rep C ρ H (.ref m) v → Rep C (ρ.take n) H d v) : ∀ (ds : List D) {ds' : List D} {vs : List V}, D.tells φ ds = some ds' → Reps C ρ H ds vs → Reps C (ρ.take n) H ds' vs
  | [], ds', vs, e, h => by cases e; exact h
  | d :: ds, ds', vs, e, ⟨v, r, ev, h1, h2⟩ => by
    unfold D.tells at e
    cases q1 : D.tell φ d with
    | none => simp only [q1] at e; cases e
    | some d1 =>
      cases q2 : D.tells φ ds with
      | none => simp only [q1, q2] at e; cases e
      | some ds2 =>
        simp only [q1, q2] at e
        cases e
        exact ⟨v, r, ev, Rep.tell hφ d q1 h1, Reps.tell hφ ds q2 h2⟩
end
mutual
theorem Rep.below : ∀ (d : D) {v : V}, Rep C ρ H d v → D.under ρ.r.length d = true
  | .non, v, h => rfl
  | .bl b, v, h => rfl
  | .int b, v, h => rfl
  | .str b, v, h => rfl
  | .fn b, v, h => rfl
  | .rng b, v, h => rfl
  | .ref m, v, ⟨a, e, _⟩ => decide_eq_true (List.getElem?_eq_some_iff.mp e).1
  | .tup ds, v, ⟨a, vs, _, _, r⟩ => Reps.below ds r
  | .lst ds, v, ⟨a, vs, _, _, r⟩ => Reps.below ds r
  | .dic ks ds, v, ⟨a, kvs, _, _, _, r⟩ => Reps.below ds r
  | .dct ks ds, v, ⟨a, es, ep, as, vs, _, _, _, _, _, r⟩ => Reps.below ds r
  | .ins c ns ds, v, ⟨a, A, dx, fs, _, _, _, _, _, r⟩ => Reps.below ds r
theorem Reps.below : ∀ (ds : List D) {vs : List V}, Reps C ρ H ds vs → D.unders ρ.r.length ds = true
  | [], vs, h => rfl
  | d :: ds, vs, ⟨v, r, _, h1, h2⟩ => by
    unfold D.unders
    rw [Rep.below d h1, Reps.below ds h2]
    rfl
end
mutual
theorem Rep.trunc : ∀ (d : D) {v : V}, D.under n d = true → Rep C ρ H d v → Rep C (ρ.take n) H d v
  | .non, v, _, h => h
  | .bl b, v, _, h => h
  | .int b, v, _, h => h
  | .str b, v, _, h => h
  | .fn b, v, _, h => h
  | .rng b, v, _, ⟨a, e, h⟩ => ⟨a, e, Still.take h⟩
  | .ref m, v, b, ⟨a, e, e2⟩ => ⟨a, by
    show (ρ.r.take n)[m]? = _
    rw [List.getElem?_take_of_lt (of_decide_eq_true b)]
    exact e, e2⟩
  | .tup ds, v, b, ⟨a, vs, e, h, r⟩ => ⟨a, vs, e, h.imp Still.take id, Reps.trunc ds b r⟩
  | .lst ds, v, b, ⟨a, vs, e, h, r⟩ => ⟨a, vs, e, h.imp Still.take id, Reps.trunc ds b r⟩
  | .dic ks ds, v, b, ⟨a, kvs, e, h, k, r⟩ => ⟨a, kvs, e, Still.take h, k, Reps.trunc ds b r⟩
  | .dct ks ds, v, b, ⟨a, es, ep, as, vs, e, h, en, nd, rk, r⟩ => ⟨a, es, ep, as, vs, e, Still.take h, en, nd, en.trunc rk, Reps.trunc ds b r⟩
  | .ins c ns ds, v, b, ⟨a, A, dx, fs, e, m, nn, h, k, r⟩ => ⟨a, A, dx, fs, e, m, Out.take nn, h, k, Reps.trunc ds b r⟩
theorem Reps.trunc : ∀ (ds : List D) {vs : List V}, D.unders n ds = true → Reps C ρ H ds vs → Reps C (ρ.take n) H ds vs
  | [], vs, _, h => h
  | d :: ds, vs, b, ⟨v, r, e, h1, h2⟩ => by
    have b' : D.under n d = true ∧ D.unders n ds = true := by simpa [D.unders] using b
    exact ⟨v, r, e, Rep.trunc d b'.1 h1, Reps.trunc ds b'.2 h2⟩
end
theorem RepO.below {d : D} {a : Addr} (h : RepO C ρ H d a) : D.under ρ.r.length d = true := by
  cases d with
  | lst ds => obtain ⟨vs, _, r⟩ := h; exact Reps.below ds r
  | dic ks ds => obtain ⟨vs, _, _, r⟩ := h; exact Reps.below ds r
  | dct ks ds => obtain ⟨es, ep, as, vs, _, _, _, _, r⟩ := h; exact Reps.below ds r
  | ins c ns ds => obtain ⟨A, dx, fs, _, _, _, r⟩ := h; exact Reps.below ds r
  | _ => exact (show False from h).elim
theorem RepO.trunc {d : D} {a : Addr} (b : D.under n d = true) (h : RepO C ρ H d a) : RepO C (ρ.take n) H d a := by
  cases d with
  | lst ds => obtain ⟨vs, e, r⟩ := h; exact ⟨vs, e, Reps.trunc ds b r⟩
  | dic ks ds => obtain ⟨vs, e, k, r⟩ := h; exact ⟨vs, e, k, Reps.trunc ds b r⟩
  | dct ks ds => obtain ⟨es, ep, as, vs, e, en, nd, rk, r⟩ := h; exact ⟨es, ep, as, vs, e, en, nd, en.trunc rk, Reps.trunc ds b r⟩
  | ins c ns ds => obtain ⟨A, dx, fs, m, e, k, r⟩ := h; exact ⟨A, dx, fs, m, e, k, Reps.trunc ds b r⟩
  | _ => exact (show False from h).elim
theorem RepS.take {w : List D} (hS : RepS C ρ H w) (hb : ∀ i d, i < n → w[i]? = some d → D.under n d = true) : RepS C (ρ.take n) H (w.take n) := by
  refine ⟨by simp [hS.len], hS.nd.sublist (List.take_sublist _ _), fun i a d h1 h2 => ?_, fun a ha => ⟨fun z => (hS.hid a ha).1 (List.mem_of_mem_take z), (hS.hid a ha).2⟩⟩
  have hi : i < n := by
    have := (List.getElem?_eq_some_iff.mp h2).1
    rw [List.length_take] at this
    omega
  replace h1 : (ρ.r.take n)[i]? = some a := h1
  rw [List.getElem?_take_of_lt hi] at h1 h2
  exact RepO.trunc (hb i d hi h2) (hS.obj i a d h1 h2)
theorem told_ok {ro w : List D} (hS : RepS C ρ H (ro ++ w)) : ∀ (k m : Nat) (d : D) (v : V), told ro.length w k m = some d → Rep C ρ H (.ref m) v → Rep C (ρ.take ro.length) H d v
  | 0, m, d, v, e, h => by
    unfold told at e
    by_cases c : m < ro.length
    · rw [if_pos c] at e
      cases e
      exact Rep.trunc (.ref m) (decide_eq_true c) h
    · rw [if_neg c] at e
      cases e
  | k + 1, m, d, v, e, h => by
    unfold told at e
    by_cases c : m < ro.length
    · rw [if_pos c] at e
      cases e
      exact Rep.trunc (.ref m) (decide_eq_true c) h
    · rw [if_neg c] at e
      cases q : w[m - ro.length]? with
      | none => rw [q] at e; cases e
      | some o =>
        rw [q] at e
        obtain ⟨a, ha, rfl⟩ := h
        have hm : (ro ++ w)[m]? = some o := by
          rw [List.getElem?_append_right (by omega)]
          exact q
        have hO := hS.obj m a o ha hm
        have an : (ρ.take ro.length).Out a := by
          refine ⟨fun z => ?_, fun z => (hS.hid a z).1 (List.mem_of_getElem? ha)⟩
          obtain ⟨j, hj, ej⟩ := List.mem_iff_getElem.mp z
          rw [List.length_take] at hj
          rw [List.getElem_take] at ej
          obtain ⟨hm', em⟩ := List.getElem?_eq_some_iff.mp ha
          have := (List.getElem_inj hS.nd).mp (ej.trans em.symm)
          omega
        cases o with
        | lst ds =>
          replace e : D.tell (told ro.length w k) (.lst ds) = some d := e
          unfold D.tell at e
          cases q2 : D.tells (told ro.length w k) ds with
          | none => rw [q2] at e; cases e
          | some ds' =>
            rw [q2] at e
            cases e
            obtain ⟨vs, e1, r⟩ := hO
            exact ⟨a, vs, rfl, .inl ⟨an, .inl e1⟩, Reps.tell (told_ok hS k) ds q2 r⟩
        | dic ks ds =>
          replace e : D.tell (told ro.length w k) (.dic ks ds) = some d := e
          unfold D.tell at e
          cases q2 : D.tells (told ro.length w k) ds with
          | none => rw [q2] at e; cases e
          | some ds' =>
            rw [q2] at e
            cases e
            obtain ⟨kvs, e1, kk, r⟩ := hO
            exact ⟨a, kvs, rfl, ⟨an, .inl e1⟩, kk, Reps.tell (told_ok hS k) ds q2 r⟩
        | dct ks ds =>
          replace e : D.tell (told ro.length w k) (.dct ks ds) = some d := e
          unfold D.tell at e
          cases q2 : D.tells (told ro.length w k) ds with
          | none => rw [q2] at e; cases e
          | some ds' =>
            rw [q2] at e
            cases e
            obtain ⟨es, ep, as, vs, e1, en, nd, rk, r⟩ := hO
            exact ⟨a, es, ep, as, vs, rfl, ⟨an, .inl e1⟩, en, nd, en.trunc rk, Reps.tell (told_ok hS k) ds q2 r⟩
        | ins c ns ds =>
          replace e : D.tell (told ro.length w k) (.ins c ns ds) = some d := e
          unfold D.tell at e
          cases q2 : D.tells (told ro.length w k) ds with
          | none => rw [q2] at e; cases e
          | some ds' =>
            rw [q2] at e
            cases e
            obtain ⟨A, dx, fs, mm, e1, kk, r⟩ := hO
            exact ⟨a, A, dx, fs, rfl, mm, an, e1, kk, Reps.tell (told_ok hS k) ds q2 r⟩
        | _ => exact (show False from hO).elim
end
/-- a def that changes nothing of its caller's: it sees them, and what it makes ends with it -/
def pureD (g : List D → M D) : List D → M D := fun ds ro w => match g ds (ro ++ w) [] with
  | .ok d w' => (match D.tell (told (ro ++ w).length w' 4) d with
    | some d' => .ok d' w
    | none => .no)
  | .exn c ns xs w' => (match D.tells (told (ro ++ w).length w' 4) xs with
    | some xs' => .exn c ns xs' w
    | none => .no)
  | .no => .no
section
variable {P : Program} {w : World} {K : PySem.W.Frag} {mg : Str → Option Value} {base : Heap}
theorem RepX.tell {C : Cfg} {ρ : Zn} {H : Hp} {n : Nat} {φ : Nat → Option D} (hφ : ∀ m d v, φ m = some d → Rep C ρ H (.ref m) v → Rep C (ρ.take n) H d v) {c : Str} {ns : List Str} {xs xs' : List D} {cls : Value} {dx : Option Addr} (e : D.tells φ xs = some xs') (h : RepX C ρ H c ns xs cls dx) : RepX C (ρ.take n) H c ns xs' cls dx := by
  obtain ⟨A, h1, h2, h3⟩ := h
  refine ⟨A, h1, h2, ?_⟩
  rcases h3 with ⟨e1, e2, e3⟩ | ⟨d, fs, e1, e0, e2, e3, e4, r⟩
  · subst e2
    cases e
    exact .inl ⟨e1, rfl, e3⟩
  · exact .inr ⟨d, fs, e1, e0, Out.take e2, e3, e4, Reps.tell hφ xs e r⟩
theorem pure_ok {f : Addr} {fd : FuncData} {ps : List Str} {k np : Nat} {g : List D → M D} (F : FnOk P w K mg base (L2.CX P w) k f fd ps (spF ⟨K, mg, w⟩ g np)) : FnOk P w K mg base (L2.CX P w) k f fd ps (spF ⟨K, mg, w⟩ (pureD g) np) := by
  refine F.imp fun vs H Q E ⟨ρ, ds, ro, v, hl, hS, hR, q⟩ => ⟨ρ, ds, ro ++ v, [], hl, by rw [List.append_nil]; exact hS, hR, ?_⟩
  have hlen : ρ.r.length = (ro ++ v).length := hS.len
  -- what stands behind, without the own objects
  have back : ∀ {ρ' : Zn} {H' : Hp} {w' : List D}, Ext ρ ρ' H H' → RepS ⟨K, mg, w⟩ ρ' H' ((ro ++ v) ++ w') → Ext ρ (ρ'.take (ro ++ v).length) H H' ∧ RepS ⟨K, mg, w⟩ (ρ'.take (ro ++ v).length) H' (ro ++ v) := by
    intro ρ' H' w' x s
    obtain ⟨⟨ν, p⟩, h1, k1, m1⟩ := x
    refine ⟨⟨⟨[], ?_⟩, h1, fun a o e n => ⟨(k1 a o e n).1, Out.take (k1 a o e n).2⟩, m1⟩, ?_⟩
    · show ρ'.r.take _ = _
      rw [p, ← hlen, List.take_left', List.append_nil]
      rfl
    · have z := RepS.take (n := (ro ++ v).length) s fun i d hi hd => ?_
      · rw [List.take_left'] at z
        · exact z
        · rfl
      · rw [List.getElem?_append_left hi] at hd
        have hr : i < ρ.r.length := by rw [hlen]; exact hi
        have := RepO.below (hS.obj i _ d (List.getElem?_eq_getElem hr) hd)
        rw [hlen] at this
        exact this
  unfold pureD at q
  cases e : g ds (ro ++ v) [] with
  | no =>
    simp only [e] at q
    exact q
  | ok d w' =>
    simp only [e] at q
    cases et : D.tell (told (ro ++ v).length w' 4) d with
    | none =>
      simp only [et] at q
      exact (show False from q).elim
    | some d' =>
      simp only [et] at q
      intro v ρ' H' x s r
      obtain ⟨x2, s2⟩ := back x s
      exact q v _ H' x2 s2 (Rep.tell (told_ok s 4) d et r)
  | exn c ns xs w' =>
    simp only [e] at q
    cases et : D.tells (told (ro ++ v).length w' 4) xs with
    | none =>
      simp only [et] at q
      exact (show False from q).elim
    | some xs' =>
      simp only [et] at q
      intro cls dx ρ' H' x s r
      obtain ⟨x2, s2⟩ := back x s
      exact q cls dx _ H' x2 s2 (RepX.tell (told_ok s 4) et r)
end
end Fx
namespace Fx
open PySem PySem.Spec L2

/-! ### in, not in -/
def D.sc : D → Bool
  | .non => true | .bl _ => true | .int _ => true | .str _ => true
  | _ => false
def D.eqs : D → D → Bool
  | .non, .non => true
  | .bl a, .bl b => a == b
  | .bl a, .int b => (if a then 1 else 0) == b
  | .int a, .bl b => a == (if b then 1 else 0)
  | .int a, .int b => a == b
  | .str a, .str b => a == b
  | _, _ => false
section
variable {C : Cfg} {ρ : Zn} {H : Hp}
theorem Rep.sc {d : D} {v : V} (h : d.sc = true) (r : Rep C ρ H d v) : flatV v = true := by
  cases d with
  | non => rw [show v = .non from r]; rfl
  | bl b => rw [show v = .bl b from r]; rfl
  | int b => rw [show v = .int b from r]; rfl
  | str b => rw [show v = .str b from r]; rfl
  | _ => cases h
theorem Rep.eqs {d e : D} {v u : V} (h : d.sc = true) (h' : e.sc = true) (r : Rep C ρ H d v) (r' : Rep C ρ H e u) : eqV v u = d.eqs e := by
  cases d with
  | non =>
    rw [show v = .non from r]
    cases e with
    | non => rw [show u = .non from r']; rfl
    | bl b => rw [show u = .bl b from r']; rfl
    | int b => rw [show u = .int b from r']; rfl
    | str b => rw [show u = .str b from r']; rfl
    | _ => cases h'
  | bl b =>
    rw [show v = .bl b from r]
    cases e with
    | non => rw [show u = .non from r']; rfl
    | bl b => rw [show u = .bl b from r']; rfl
    | int b => rw [show u = .int b from r']; rfl
    | str b => rw [show u = .str b from r']; rfl
    | _ => cases h'
  | int b =>
    rw [show v = .int b from r]
    cases e with
    | non => rw [show u = .non from r']; rfl
    | bl b => rw [show u = .bl b from r']; rfl
    | int b => rw [show u = .int b from r']; rfl
    | str b => rw [show u = .str b from r']; rfl
    | _ => cases h'
  | str b =>
    rw [show v = .str b from r]
    cases e with
    | non => rw [show u = .non from r']; rfl
    | bl b => rw [show u = .bl b from r']; rfl
    | int b => rw [show u = .int b from r']; rfl
    | str b => rw [show u = .str b from r']; rfl
    | _ => cases h'
  | _ => cases h
theorem Reps.sc : ∀ {ds : List D} {vs : List V}, ds.all D.sc = true → Reps C ρ H ds vs → vs.all flatV = true
  | [], vs, _, h => by
    cases (show vs = [] from h)
    rfl
  | d :: ds, vs, h, ⟨v, r, e, h1, h2⟩ => by
    subst e
    rw [List.all_cons, Bool.and_eq_true] at h ⊢
    exact ⟨Rep.sc h.1 h1, Reps.sc h.2 h2⟩
theorem Reps.inV {e : D} {u : V} (h' : e.sc = true) (r' : Rep C ρ H e u) : ∀ {ds : List D} {vs : List V}, ds.all D.sc = true → Reps C ρ H ds vs → L2.inV u vs = ds.any fun d => d.eqs e
  | [], vs, _, h => by
    cases (show vs = [] from h)
    rfl
  | d :: ds, vs, h, ⟨v, r, eq, h1, h2⟩ => by
    subst eq
    rw [List.all_cons, Bool.and_eq_true] at h
    unfold L2.inV
    rw [List.any_cons, List.any_cons, Rep.eqs h.1 h' h1 r']
    congr 1
    exact Reps.inV h' r' h.2 h2
end
def isSign (x : Str) : Option Nat := match x.cps.toList with
  | [c] => some c
  | _ => none
theorem isSign_eq {x : Str} {c : Nat} (h : isSign x = some c) : x = ⟨#[c]⟩ := by
  unfold isSign at h
  split at h
  · rename_i q
    cases h
    obtain ⟨a⟩ := x
    obtain ⟨l⟩ := a
    simp only at q
    subst q
    rfl
  · cases h
/-- x in y -/
def inD (x y : D) : Option Bool := match y with
  | .tup ds => if x.sc && ds.all D.sc then some (ds.any fun d => d.eqs x) else none
  | .lst ds => if x.sc && ds.all D.sc then some (ds.any fun d => d.eqs x) else if x.cmp && (D.lst ds).cmp then some (ds.any fun d => PyData.eqv d.py x.py) else none
  | .str z => match x with
    | .str c => match isSign c with
      | some k => some (decide (k ∈ z.cps.toList))
      | none => none
    | _ => none
  | _ => none
def gIn (x y : D) : M D := fun _ w => match inD x y with
  | some b => .ok (.bl b) w
  | none => .no
def gNotIn (x y : D) : M D := fun _ w => match inD x y with
  | some b => .ok (.bl (!b)) w
  | none => .no
def rInF (K : PySem.W.Frag) (neg : Bool) : R2 := fun x y H Q => rIn K neg x y H Q ∨ (if neg then rNotInD K x y H Q else rInD K x y H Q) ∨ (∃ (c : Nat) (z : Str), x = .str ⟨#[c]⟩ ∧ y = .str z ∧ Q (.bl (if neg then !decide (c ∈ z.cps.toList) else decide (c ∈ z.cps.toList))) H)
section
variable {X : Cx} {C : Cfg}
theorem opf_notIn (hu : X.A.units + 65 < cLine) : OpR X (compareOp .NotIn) (rInF X.K true) := op_notIn_seq.or ((op_notInD hu).or op_notIn_sign)
theorem any_pys {x : D} : ∀ ds : List D, (D.pys ds).any (fun z => PyData.eqv z x.py) = ds.any fun d => PyData.eqv d.py x.py
  | [] => rfl
  | d :: ds => by
    show (d.py :: D.pys ds).any _ = _
    rw [List.any_cons, List.any_cons, any_pys ds]
theorem in_core {ρ : Zn} {H : Hp} {d e : D} {x y : V} {b : Bool} (neg : Bool) {Q : VK} (hd : Seen C ρ H d x) (he : Seen C ρ H e y) (h : inD d e = some b) (q : Q (.bl (if neg then !b else b)) H) : rInF C.K neg x y H Q := by
  have scal : d.sc = true → Rep C ρ H d x := fun s => by
    rcases hd with h | ⟨a, _, h⟩
    · exact h
    · cases d <;> first | exact (show False from h).elim | cases s
  cases e with
  | tup ds =>
    unfold inD at h
    dsimp only at h
    by_cases c : (d.sc && ds.all D.sc) = true
    · rw [if_pos c] at h
      cases h
      rw [Bool.and_eq_true] at c
      obtain ⟨p, vs, rfl, hp, r⟩ := he.tup
      refine .inl ⟨p, vs, rfl, .inr hp, Rep.sc c.1 (scal c.1), r.sc c.2, ?_⟩
      rw [Reps.inV c.1 (scal c.1) c.2 r]
      exact q
    · rw [if_neg c] at h
      cases h
  | lst ds =>
    unfold inD at h
    dsimp only at h
    obtain ⟨p, vs, rfl, hp, r⟩ := he.lst
    by_cases c : (d.sc && ds.all D.sc) = true
    · rw [if_pos c] at h
      cases h
      rw [Bool.and_eq_true] at c
      refine .inl ⟨p, vs, rfl, .inl hp, Rep.sc c.1 (scal c.1), r.sc c.2, ?_⟩
      rw [Reps.inV c.1 (scal c.1) c.2 r]
      exact q
    · rw [if_neg c] at h
      by_cases c2 : (d.cmp && (D.lst ds).cmp) = true
      · rw [if_pos c2] at h
        cases h
        rw [Bool.and_eq_true] at c2
        obtain ⟨f1, s1⟩ := Bool.and_eq_true_iff.mp c2.1
        obtain ⟨f2, s2⟩ := Bool.and_eq_true_iff.mp c2.2
        have h2 : Dp C.K H (.ref p) (.list (D.pys ds)) := .lst hp (Reps.dp ds (by simpa [D.flat] using f2) r)
        rw [← any_pys] at q
        cases neg with
        | false => exact .inr (.inl (by rw [if_neg Bool.false_ne_true]; exact ⟨d.py, D.pys ds, hd.dp f1, h2, s1, s2, q⟩))
        | true => exact .inr (.inl (by rw [if_pos rfl]; exact ⟨d.py, D.pys ds, hd.dp f1, h2, s1, s2, q⟩))
      · rw [if_neg c2] at h
        cases h
  | str z =>
    cases d with
    | str k =>
      unfold inD at h
      dsimp only at h
      cases hk : isSign k with
      | none =>
        rw [hk] at h
        cases h
      | some c =>
        rw [hk] at h
        cases h
        exact .inr (.inr ⟨c, z, by rw [hd.str, isSign_eq hk], he.str, q⟩)
    | _ => cases h
  | _ => cases h
theorem ok2_notIn : Ok2 C (rInF C.K true) gNotIn := by
  intro W σ ρ H ro w d e x y Q hS hd he q
  unfold gNotIn at q
  cases h : inD d e with
  | none =>
    rw [h] at q
    exact (show False from q).elim
  | some b =>
    rw [h] at q
    exact in_core true hd he h (ok_bl hS q)
theorem hu65 {k : Nat} {A : Around} (r : Room k A) : A.units + 65 < cLine := by
  have := r.un
  omega
end

/-! ### reversed(list) -/
section
variable {X : Cx} {W : WX} {pos p : Pos} {e tg : Expr} {fs : Env → M (List D)}
def gRev : List D → M (List D)
  | [.lst ds] => M.pure ds.reverse
  | _ => M.no
def cRev (fs : Env → M (List D)) : Env → M (List D) := fun env => M.bind (fs env) gRev
end
end Fx
namespace Fx
open PySem PySem.Spec L2

/-- the end of a law's row: what the law's function gives -/
theorem law_end {l : PySem.W.OpenLaw} {q : Program} {loose : List Str} {XP : (Str → Option Value) → Heap → Prop} {YP : World → Heap → Prop} {d : DefRec} {K : Params → PySem.W.Frag} {x : Str} {N : Nat} {g : List D → M D}
    (hn : l.most = some 63) (hdf : d.params.defaults = []) (hr : Room N callerA)
    (hY : ∀ (w : World) (h : Heap), YP w h → (K w.params).In h)
    (F : ∀ (w : World) (mg : Str → Option Value) (fa : Addr) (h : Heap), (K w.params).In h → h.Ns mainGlobals mg → mg d.name = some (.ref fa) →
      ∃ fd : FuncData, (∀ (s : Shared) (u : Value), BindsTo s fd ⟨[u], []⟩ [(x, u)]) ∧
        ∀ base : Heap, (K w.params).In base → base.Ns mainGlobals mg → FnOk l.prog w (K w.params) mg base (L2.CX l.prog w) N fa fd [x] (spF ⟨K w.params, mg, w⟩ g 1))
    (hlaw : ∀ ns : List Int, ns.length ≤ 63 → ∃ w', g [.lst (ns.map .int)] [] [] = .ok (.bl true) w') :
    PySem.W.WalkO q loose XP YP l.row.toRowW d [] (fun f vs => PySem.call f vs) := by
  refine L2.walk_of (n := 63) (k := N) (x := x) (CX := fun w => L2.CX l.prog w) (sp := fun w vs H Q _ => ∃ (a : Addr) (ns : List Int), vs = [.ref a] ∧ SqL (K w.params) H a (ns.map V.int) ∧ ns.length ≤ 63 ∧ ∀ H', Q (.bl true) H')
    hn (by decide) hdf hr hY (fun w mg fa h KX G hm => ?_) (fun w H a ns hl _ hS => ⟨a, ns, rfl, hS, hl, fun _ => rfl⟩) (fun w H s e s' h => ?_)
  · obtain ⟨fd, hb, hF⟩ := F w mg fa h KX G hm
    refine ⟨fd, hb, fun base h1 h2 => (hF base h1 h2).imp fun vs H Q E ⟨a, ns, e, hS, hl, q⟩ => ?_⟩
    subst e
    obtain ⟨w', hw⟩ := hlaw ns hl
    have reps : ∀ ns : List Int, Reps ⟨K w.params, mg, w⟩ ⟨[], []⟩ H (ns.map D.int) (ns.map V.int) := fun ns => by
      induction ns with
      | nil => exact rfl
      | cons n ns ih => exact ⟨_, _, rfl, rfl, ih⟩
    refine ⟨⟨[], []⟩, [.lst (ns.map .int)], [], [], rfl, ⟨rfl, List.nodup_nil, fun i a d e => by simp at e, fun a ha => by cases ha⟩, Reps.one ⟨a, _, rfl, ?_, reps ns⟩, ?_⟩
    · rcases hS with h | h
      · exact .inl ⟨⟨by simp, by simp⟩, h⟩
      · exact .inr h
    · rw [hw]
      intro v ρ' H' _ _ r
      rw [show v = .bl true from r]
      exact q H'
  · obtain ⟨_, _, _, _, _, _, _, _, _, _, _, _, z⟩ := h
    exact z
theorem gk_text {K : PySem.W.Frag} {mg : Str → Option Value} {x y : Str} {t : Tok} (hm : mg x = some (.str y t)) : GK ⟨K, mg, w⟩ x (.str y) := ⟨.str y, _, hm, ⟨t, rfl⟩, fun _ _ => rfl⟩
theorem gk_int {K : PySem.W.Frag} {mg : Str → Option Value} {x : Str} {y : Int} {t : Tok} (hm : mg x = some (.int y t)) : GK ⟨K, mg, w⟩ x (.int y) := ⟨.int y, _, hm, ⟨t, rfl⟩, fun _ _ => rfl⟩
end Fx
/-! What the functions give: rewriting by values. -/
namespace Fx
open PySem PySem.Spec L2

def Out.an {α β : Type} (o : Out α) (f : α → List D → Out β) : Out β := match o with
  | .ok a w => f a w
  | .exn c ns xs w => .exn c ns xs w
  | .no => .no
def Out.st {α : Type} (o : Out α) (env : Env) (f : α → List D → OS) : OS := match o with
  | .ok a w => f a w
  | .exn c ns xs w => .exn c ns xs env w
  | .no => .no
def OS.an (o : OS) (f : Env → List D → OS) : OS := match o with
  | .go .nx env w => f env w
  | o => o
def OS.turn (o : OS) (f : Env → List D → OS) : OS := match o with
  | .go .nx env w => f env w
  | .go .ct env w => f env w
  | .go .bk env w => .go .nx env w
  | .go (.rt d) env w => .go (.rt d) env w
  | .exn c ns xs env w => .exn c ns xs env w
  | .no => .no
def OS.fin (o : OS) : Out D := match o with
  | .go .nx _ w => .ok .non w
  | .go (.rt d) _ w => .ok d w
  | .exn c ns xs _ w => .exn c ns xs w
  | _ => .no
def Out.calm {α : Type} (o : Out α) : Out α := match o with
  | .ok a w => .ok a w
  | _ => .no
def ofO (o : Option (Option D)) (w : List D) : Out D := match o with
  | some (some d) => .ok d w
  | _ => .no
section
variable {α β : Type} {m : M α} {f : α → M β} {a : α} {ro w w' : List D} {env env' : Env} {c : Str} {ns : List Str} {xs : List D} {d e : D} {g : α → List D → Out β} {h : Env → List D → OS} {k : α → List D → OS}
@[simp] theorem an_ok : (Out.ok a w).an g = g a w := rfl
@[simp] theorem an_exn : (Out.exn c ns xs w : Out α).an g = .exn c ns xs w := rfl
@[simp] theorem an_no : (Out.no : Out α).an g = .no := rfl
@[simp] theorem st_ok : (Out.ok a w).st env k = k a w := rfl
@[simp] theorem st_exn : (Out.exn c ns xs w : Out α).st env k = .exn c ns xs env w := rfl
@[simp] theorem st_no : (Out.no : Out α).st env k = .no := rfl
@[simp] theorem oan_nx : (OS.go .nx env w).an h = h env w := rfl
@[simp] theorem oan_rt : (OS.go (.rt d) env w).an h = .go (.rt d) env w := rfl
@[simp] theorem oan_bk : (OS.go .bk env w).an h = .go .bk env w := rfl
@[simp] theorem oan_ct : (OS.go .ct env w).an h = .go .ct env w := rfl
@[simp] theorem oan_exn : (OS.exn c ns xs env w).an h = .exn c ns xs env w := rfl
@[simp] theorem oan_no : OS.no.an h = .no := rfl
@[simp] theorem tn_nx : (OS.go .nx env w).turn h = h env w := rfl
@[simp] theorem tn_ct : (OS.go .ct env w).turn h = h env w := rfl
@[simp] theorem tn_bk : (OS.go .bk env w).turn h = .go .nx env w := rfl
@[simp] theorem tn_rt : (OS.go (.rt d) env w).turn h = .go (.rt d) env w := rfl
@[simp] theorem tn_exn : (OS.exn c ns xs env w).turn h = .exn c ns xs env w := rfl
@[simp] theorem tn_no : OS.no.turn h = .no := rfl
@[simp] theorem fin_nx : (OS.go .nx env w).fin = .ok .non w := rfl
@[simp] theorem fin_rt : (OS.go (.rt d) env w).fin = .ok d w := rfl
@[simp] theorem fin_exn : (OS.exn c ns xs env w).fin = .exn c ns xs w := rfl
@[simp] theorem fin_no : OS.no.fin = .no := rfl
@[simp] theorem calm_ok' : (Out.ok a w).calm = .ok a w := rfl
@[simp] theorem calm_no : (Out.no : Out α).calm = .no := rfl
@[simp] theorem ofO_ss : ofO (some (some d)) w = .ok d w := rfl
@[simp] theorem ofO_sn : ofO (some none) w = .no := rfl
@[simp] theorem ofO_n : ofO none w = .no := rfl
@[simp] theorem x_bind : M.bind m f ro w = (m ro w).an fun a w' => f a ro w' := by
  unfold M.bind
  cases m ro w <;> rfl
@[simp] theorem x_pure : M.pure a ro w = .ok a w := rfl
@[simp] theorem x_no : (M.no : M α) ro w = .no := rfl
@[simp] theorem x_calm : M.calm m ro w = (m ro w).calm := by
  unfold M.calm
  cases m ro w <;> rfl
@[simp] theorem x_see : M.see d ro w = .ok (see ro w d) w := rfl
@[simp] theorem see_non : see ro w .non = .non := rfl
@[simp] theorem see_int {i : Int} : see ro w (.int i) = .int i := rfl
@[simp] theorem see_str {i : Str} : see ro w (.str i) = .str i := rfl
@[simp] theorem see_bl {i : Bool} : see ro w (.bl i) = .bl i := rfl
@[simp] theorem see_tup {ds : List D} : see ro w (.tup ds) = .tup ds := rfl
@[simp] theorem see_lst {ds : List D} : see ro w (.lst ds) = .lst ds := rfl
@[simp] theorem see_dct {ks ds : List D} : see ro w (.dct ks ds) = .dct ks ds := rfl
@[simp] theorem see_dic {ks ds : List D} : see ro w (.dic ks ds) = .dic ks ds := rfl
theorem see_ref {n : Nat} : see ro w (.ref n) = ((ro ++ w)[n]?).getD .non := rfl
@[simp] theorem x_var {i : Nat} : cVar i env ro w = ofO env[i]? w := by
  unfold cVar
  cases env[i]? with
  | none => rfl
  | some o => cases o <;> rfl
@[simp] theorem x_k : cK d env ro w = .ok d w := rfl
@[simp] theorem x_args0 : cArgs [] env ro w = .ok [] w := rfl
@[simp] theorem x_args {f : EF} {fs : List EF} : cArgs (f :: fs) env ro w = (f env ro w).an fun d w1 => (cArgs fs env ro w1).an fun ds w2 => .ok (d :: ds) w2 := by
  show M.bind (f env) (fun d => M.bind (cArgs fs env) fun ds => M.pure (d :: ds)) ro w = _
  simp
@[simp] theorem x_call {g : List D → M D} {fs : Env → M (List D)} : cCall g fs env ro w = (fs env ro w).an fun ds w1 => g ds ro w1 := by
  show M.bind (fs env) g ro w = _
  simp
@[simp] theorem x_call0 {g : List D → M D} : cCall0 g env ro w = g [] ro w := rfl
@[simp] theorem x_one {g : D → M D} : one g [d] ro w = g (see ro w d) ro w := rfl
@[simp] theorem x_tup {fs : Env → M (List D)} : cTup fs env ro w = (fs env ro w).an fun ds w1 => .ok (.tup ds) w1 := by
  show M.bind (fs env) _ ro w = _
  simp
@[simp] theorem x_lst {fs : Env → M (List D)} : cLst fs env ro w = (fs env ro w).an fun ds w1 => .ok (.lst ds) w1 := by
  show M.bind (fs env) _ ro w = _
  simp
@[simp] theorem x_new : mNew d ro w = .ok (.ref (ro.length + w.length)) (w ++ [d]) := by
  unfold mNew
  rw [List.length_append]
@[simp] theorem x_lstM {fs : Env → M (List D)} : cLstM fs env ro w = (fs env ro w).an fun ds w1 => .ok (.ref (ro.length + w1.length)) (w1 ++ [.lst ds]) := by
  show M.bind (fs env) _ ro w = _
  simp
@[simp] theorem x_bin {g : D → D → M D} {fa fb : EF} : cBin g fa fb env ro w = (fa env ro w).an fun d w1 => (fb env ro w1).an fun e w2 => g (see ro w2 d) (see ro w2 e) ro w2 := by
  show M.bind (fa env) _ ro w = _
  simp
@[simp] theorem x_un {g : D → M D} {fa : EF} : cUn g fa env ro w = (fa env ro w).an fun d w1 => g d ro w1 := by
  show M.bind (fa env) _ ro w = _
  simp
/-! truth -/
def Out.obl (o : Option Bool) (w : List D) : Out Bool := match o with
  | some b => .ok b w
  | none => .no
@[simp] theorem obl_s {b : Bool} : Out.obl (some b) w = .ok b w := rfl
@[simp] theorem bool_bl {b : Bool} : M.bool (.bl b) ro w = .ok b w := rfl
@[simp] theorem truth_bl {b : Bool} : M.truth (.bl b) ro w = .ok b w := rfl
@[simp] theorem truth_non : M.truth .non ro w = .ok false w := rfl
@[simp] theorem truth_int {i : Int} : M.truth (.int i) ro w = .ok (i != 0) w := rfl
@[simp] theorem truth_lst {ds : List D} : M.truth (.lst ds) ro w = .ok (!ds.isEmpty) w := rfl
@[simp] theorem truth_tup {ds : List D} : M.truth (.tup ds) ro w = .ok (!ds.isEmpty) w := rfl
@[simp] theorem x_test {fa : EF} : cTest fa env ro w = (fa env ro w).an fun d w1 => M.bool d ro w1 := by
  show M.bind (fa env) _ ro w = _
  simp
@[simp] theorem x_tru {fa : EF} : cTru fa env ro w = (fa env ro w).an fun d w1 => M.truth (see ro w1 d) ro w1 := by
  show M.bind (fa env) _ ro w = _
  simp
@[simp] theorem x_yes : cYes env ro w = .ok true w := rfl
variable {ta tb : Env → M Bool} {fa fb : EF}
@[simp] theorem x_andT : cAndT ta tb env ro w = (ta env ro w).an fun b w1 => if b = true then tb env ro w1 else .ok false w1 := by
  show M.bind (ta env) _ ro w = _
  rw [x_bind]
  congr
  funext b w1
  cases b <;> rfl
@[simp] theorem x_orT : cOrT ta tb env ro w = (ta env ro w).an fun b w1 => if b = true then .ok true w1 else tb env ro w1 := by
  show M.bind (ta env) _ ro w = _
  rw [x_bind]
  congr
  funext b w1
  cases b <;> rfl
@[simp] theorem x_notT : cNotT ta env ro w = (ta env ro w).an fun b w1 => .ok (!b) w1 := by
  show M.bind (ta env) _ ro w = _
  simp
@[simp] theorem x_if : cIf ta fa fb env ro w = (ta env ro w).an fun b w1 => if b = true then fa env ro w1 else fb env ro w1 := by
  show M.bind (ta env) _ ro w = _
  rw [x_bind]
  congr
  funext b w1
  cases b <;> rfl
def andV (d : D) (o : List D → Out D) (w : List D) : Out D := match d with
  | .bl true => o w
  | .bl false => .ok (.bl false) w
  | _ => .no
def orV (d : D) (o : List D → Out D) (w : List D) : Out D := match d with
  | .bl true => .ok (.bl true) w
  | .bl false => o w
  | _ => .no
@[simp] theorem andV_bl {b : Bool} {o : List D → Out D} : andV (.bl b) o w = if b = true then o w else .ok (.bl false) w := by cases b <;> rfl
@[simp] theorem orV_bl {b : Bool} {o : List D → Out D} : orV (.bl b) o w = if b = true then .ok (.bl true) w else o w := by cases b <;> rfl
@[simp] theorem x_and : cAnd fa fb env ro w = (fa env ro w).an fun d w1 => andV d (fb env ro) w1 := by
  show M.bind (fa env) _ ro w = _
  rw [x_bind]
  congr
  funext d w1
  cases d with
  | bl b => cases b <;> rfl
  | _ => rfl
@[simp] theorem x_or : cOr fa fb env ro w = (fa env ro w).an fun d w1 => orV d (fb env ro) w1 := by
  show M.bind (fa env) _ ro w = _
  rw [x_bind]
  congr
  funext d w1
  cases d with
  | bl b => cases b <;> rfl
  | _ => rfl
def notV (d : D) (w : List D) : Out D := match d with
  | .bl b => .ok (.bl (!b)) w
  | _ => .no
@[simp] theorem notV_bl {b : Bool} : notV (.bl b) w = .ok (.bl (!b)) w := rfl
@[simp] theorem x_not : cNot fa env ro w = (fa env ro w).an fun d w1 => notV d w1 := by
  show M.bind (fa env) _ ro w = _
  rw [x_bind]
  congr
  funext d w1
  cases d <;> rfl
/-! operators -/
variable {i j : Int} {x y : Str}
@[simp] theorem add_int : gAdd (.int i) (.int j) ro w = .ok (.int (i + j)) w := rfl
@[simp] theorem add_str : gAdd (.str x) (.str y) ro w = if x.length + y.length ≤ sizeLine then .ok (.str (x ++ y)) w else .no := rfl
@[simp] theorem add_tup {ds es : List D} : gAdd (.tup ds) (.tup es) ro w = if ds.length + es.length ≤ sizeLine then .ok (.tup (ds ++ es)) w else .no := rfl
@[simp] theorem add_lst {ds es : List D} : gAdd (.lst ds) (.lst es) ro w = if ds.length + es.length ≤ sizeLine then .ok (.lst (ds ++ es)) w else .no := rfl
@[simp] theorem sub_int : Fx.gSub (.int i) (.int j) ro w = .ok (.int (i - j)) w := rfl
@[simp] theorem mul_int : gMul (.int i) (.int j) ro w = if i.natAbs < 2 ^ 64 ∨ j.natAbs < 2 ^ 64 then .ok (.int (i * j)) w else .no := rfl
@[simp] theorem div_int : gDiv (.int i) (.int j) ro w = if 0 < j ∧ j.natAbs < 1073741824 then .ok (.int (i / j)) w else .no := rfl
@[simp] theorem mod_int : gMod (.int i) (.int j) ro w = if 0 < j then .ok (.int (i % j)) w else .no := rfl
@[simp] theorem lt_int : gLt (.int i) (.int j) ro w = .ok (.bl (decide (i < j))) w := rfl
@[simp] theorem le_int : gLe (.int i) (.int j) ro w = .ok (.bl (decide (i ≤ j))) w := rfl
@[simp] theorem gt_int : gGt (.int i) (.int j) ro w = .ok (.bl (decide (j < i))) w := rfl
@[simp] theorem ge_int : gGe (.int i) (.int j) ro w = .ok (.bl (decide (j ≤ i))) w := rfl
@[simp] theorem neg_int : gNeg (.int i) ro w = .ok (.int (-i)) w := rfl
@[simp] theorem isN : gIsN d .non ro w = .ok (.bl d.isNon) w := rfl
@[simp] theorem notN : gNotN d .non ro w = .ok (.bl (!d.isNon)) w := rfl
@[simp] theorem isNon_non : D.non.isNon = true := rfl
@[simp] theorem isNon_bl {b : Bool} : (D.bl b).isNon = false := rfl
@[simp] theorem isNon_int : (D.int i).isNon = false := rfl
@[simp] theorem isNon_str : (D.str x).isNon = false := rfl
@[simp] theorem isNon_tup {ds : List D} : (D.tup ds).isNon = false := rfl
@[simp] theorem isNon_lst {ds : List D} : (D.lst ds).isNon = false := rfl
theorem x_eq : gEq d e ro w = if (d.cmp && e.cmp) = true then .ok (.bl (PyData.eqv d.py e.py)) w else .no := rfl
theorem x_ne : gNe d e ro w = if (d.cmp && e.cmp) = true then .ok (.bl (!PyData.eqv d.py e.py)) w else .no := rfl
@[simp] theorem cmp_int : (D.int i).cmp = true := rfl
@[simp] theorem cmp_bl {b : Bool} : (D.bl b).cmp = true := rfl
@[simp] theorem eq_int : gEq (.int i) (.int j) ro w = .ok (.bl (decide (i = j))) w := by
  rw [x_eq, if_pos (by simp)]
  show Out.ok (D.bl (i == j)) w = _
  rw [Bool.beq_eq_decide_eq]
@[simp] theorem ne_int : gNe (.int i) (.int j) ro w = .ok (.bl (!decide (i = j))) w := by
  rw [x_ne, if_pos (by simp)]
  show Out.ok (D.bl (!(i == j))) w = _
  rw [Bool.beq_eq_decide_eq]
@[simp] theorem eq_bl {a b : Bool} : gEq (.bl a) (.bl b) ro w = .ok (.bl (decide (a = b))) w := by
  rw [x_eq, if_pos (by simp)]
  show Out.ok (D.bl (a == b)) w = _
  rw [Bool.beq_eq_decide_eq]
@[simp] theorem ne_bl {a b : Bool} : gNe (.bl a) (.bl b) ro w = .ok (.bl (!decide (a = b))) w := by
  rw [x_ne, if_pos (by simp)]
  show Out.ok (D.bl (!(a == b))) w = _
  rw [Bool.beq_eq_decide_eq]
def Out.od (o : Option D) (w : List D) : Out D := match o with
  | some d => .ok d w
  | none => .no
@[simp] theorem od_s : Out.od (some d) w = .ok d w := rfl
@[simp] theorem od_n : Out.od none w = .no := rfl
@[simp] theorem ix_tup {ds : List D} : gIx (.tup ds) (.int i) ro w = Out.od (L2.atI ds i) w := by
  unfold gIx Out.od
  cases h : L2.atI ds i <;> simp only [h]
@[simp] theorem ix_lst {ds : List D} : gIx (.lst ds) (.int i) ro w = Out.od (L2.atI ds i) w := by
  unfold gIx Out.od
  cases h : L2.atI ds i <;> simp only [h]
@[simp] theorem len_tup {ds : List D} : gLen (.tup ds) ro w = .ok (.int ds.length) w := rfl
@[simp] theorem len_lst {ds : List D} : gLen (.lst ds) ro w = .ok (.int ds.length) w := rfl
@[simp] theorem len_str : gLen (.str x) ro w = if x.length ≤ sizeLine then .ok (.int x.length) w else .no := rfl
@[simp] theorem int_int : gInt (.int i) ro w = .ok (.int i) w := rfl
@[simp] theorem int_bl {b : Bool} : gInt (.bl b) ro w = .ok (.int (if b then 1 else 0)) w := rfl
@[simp] theorem list_lst {ds : List D} : gList (.lst ds) ro w = .ok (.lst ds) w := rfl
@[simp] theorem list_tup {ds : List D} : gList (.tup ds) ro w = .ok (.lst ds) w := rfl
@[simp] theorem listM_lst {ds : List D} : gListM (.lst ds) ro w = .ok (.ref (ro.length + w.length)) (w ++ [.lst ds]) := by
  show mNew _ ro w = _
  simp
@[simp] theorem listM_tup {ds : List D} : gListM (.tup ds) ro w = .ok (.ref (ro.length + w.length)) (w ++ [.lst ds]) := by
  show mNew _ ro w = _
  simp
@[simp] theorem tuple_lst {ds : List D} : gTuple (.lst ds) ro w = .ok (.tup ds) w := rfl
@[simp] theorem tuple_tup {ds : List D} : gTuple (.tup ds) ro w = .ok (.tup ds) w := rfl
def isiV (t : Ty) (d : D) (w : List D) : Out D := match d.ty? with
  | some a => .ok (.bl (isTy a t)) w
  | none => .no
@[simp] theorem isi_non {t : Ty} : isiV t .non w = .ok (.bl (isTy .non t)) w := rfl
@[simp] theorem isi_int {t : Ty} : isiV t (.int i) w = .ok (.bl (isTy .int t)) w := rfl
@[simp] theorem isi_str {t : Ty} : isiV t (.str x) w = .ok (.bl (isTy .str t)) w := rfl
@[simp] theorem isi_bl {t : Ty} {b : Bool} : isiV t (.bl b) w = .ok (.bl (isTy .bl t)) w := rfl
@[simp] theorem isi_tup {t : Ty} {ds : List D} : isiV t (.tup ds) w = .ok (.bl (isTy .tup t)) w := rfl
@[simp] theorem isi_lst {t : Ty} {ds : List D} : isiV t (.lst ds) w = .ok (.bl (isTy .lst t)) w := rfl
@[simp] theorem x_isi {t : Ty} : cIsi t fa env ro w = (fa env ro w).an fun d w1 => isiV t (see ro w1 d) w1 := by
  show M.bind (fa env) _ ro w = _
  simp only [x_bind, x_see, an_ok]
  congr
  funext d w1
  unfold gIsi isiV
  cases (see ro w1 d).ty? <;> rfl
@[simp] theorem x_in {b : Bool} (h : inD d e = some b) : gIn d e ro w = .ok (.bl b) w := by
  unfold gIn
  rw [h]
@[simp] theorem x_notIn {b : Bool} (h : inD d e = some b) : gNotIn d e ro w = .ok (.bl (!b)) w := by
  unfold gNotIn
  rw [h]
@[simp] theorem x_noPart : cNoPart env ro w = .ok none w := rfl
def partV (d : D) (w : List D) : Out (Option Int) := match d with
  | .int i => .ok (some i) w
  | _ => .no
@[simp] theorem partV_int : partV (.int i) w = .ok (some i) w := rfl
@[simp] theorem x_part : cPart fa env ro w = (fa env ro w).an fun d w1 => partV d w1 := by
  show M.bind (fa env) _ ro w = _
  rw [x_bind]
  congr
  funext d w1
  cases d <;> rfl
@[simp] theorem x_sl {lo hi : Env → M (Option Int)} : cSl fa lo hi env ro w = (fa env ro w).an fun d w1 => (lo env ro w1).an fun i w2 => (hi env ro w2).an fun j w3 => gSl (see ro w3 d) i j ro w3 := by
  show M.bind (fa env) _ ro w = _
  simp
@[simp] theorem sl_lst {ds : List D} {lo hi : Option Int} : gSl (.lst ds) lo hi ro w = .ok (.lst (cut ds lo hi)) w := rfl
@[simp] theorem sl_tup {ds : List D} {lo hi : Option Int} : gSl (.tup ds) lo hi ro w = .ok (.tup (cut ds lo hi)) w := rfl
/-! statements -/
variable {s t : SF}
@[simp] theorem x_nil : sNil env ro w = .go .nx env w := rfl
@[simp] theorem x_pass : sPass env ro w = .go .nx env w := rfl
@[simp] theorem x_brk : sBrk env ro w = .go .bk env w := rfl
@[simp] theorem x_cnt : sCnt env ro w = .go .ct env w := rfl
@[simp] theorem x_seq : sSeq s t env ro w = (s env ro w).an fun env' w' => t env' ro w' := by
  unfold sSeq OS.an
  cases s env ro w with
  | go fl env w => cases fl <;> rfl
  | _ => rfl
theorem x_lift {f : Env → M α} {k : α → SF} : sLift f k env ro w = (f env ro w).st env fun a w' => k a env ro w' := by
  unfold sLift Out.st
  cases f env ro w <;> rfl
@[simp] theorem x_set {n : Nat} : sSet n fa env ro w = (fa env ro w).st env fun d w' => .go .nx (env.set n (some d)) w' := x_lift
@[simp] theorem x_ret : sRet fa env ro w = (fa env ro w).st env fun d w' => .go (.rt d) env w' := x_lift
@[simp] theorem x_retN : sRetN env ro w = .go (.rt .non) env w := rfl
@[simp] theorem x_expr : sExpr fa env ro w = (fa env ro w).st env fun _ w' => .go .nx env w' := x_lift
@[simp] theorem x_ifS : sIf ta s t env ro w = (ta env ro w).st env fun b w' => if b = true then s env ro w' else t env ro w' := by
  refine x_lift.trans ?_
  congr
  funext b w'
  cases b <;> rfl
@[simp] theorem x_put {fo fi fv : EF} : sPut fo fi fv env ro w = (fv env ro w).st env fun v w1 => (fo env ro w1).st env fun o w2 => (fi env ro w2).st env fun i w3 => (gPut v o i ro w3).st env fun _ w4 => .go .nx env w4 := by
  refine x_lift.trans (congrArg _ ?_)
  funext v w1
  refine x_lift.trans (congrArg _ ?_)
  funext o w2
  refine x_lift.trans (congrArg _ ?_)
  funext i w3
  exact x_lift
@[simp] theorem x_aug {n : Nat} {g : D → D → M D} : sAug n g fa env ro w = (cVar n env ro w).st env fun x w1 => (fa env ro w1).st env fun y w2 => (g (see ro w2 x) (see ro w2 y) ro w2).st env fun z w3 => .go .nx (env.set n (some z)) w3 := by
  refine x_lift.trans (congrArg _ ?_)
  funext v w1
  refine x_lift.trans (congrArg _ ?_)
  funext o w2
  refine x_lift.trans ?_
  simp
theorem x_for {tg : Tg} {it : Env → M (List D)} : sFor tg it s env ro w = (it env ro w).st env fun ds w' => forL tg s ds env ro w' := x_lift
@[simp] theorem for_nil {tg : Tg} : forL tg s [] env ro w = .go .nx env w := rfl
theorem for_cons {tg : Tg} {ds : List D} (h : tg.put d env = some env') : forL tg s (d :: ds) env ro w = (s env' ro w).turn fun env2 w2 => forL tg s ds env2 ro w2 := by
  show (match tg.put d env with
    | none => OS.no
    | some env1 => match s env1 ro w with
      | .go .nx env2 w2 => forL tg s ds env2 ro w2
      | .go .ct env2 w2 => forL tg s ds env2 ro w2
      | .go .bk env2 w2 => .go .nx env2 w2
      | .go (.rt d) env2 w2 => .go (.rt d) env2 w2
      | .exn c ns xs env2 w2 => .exn c ns xs env2 w2
      | .no => .no) = _
  rw [h]
  dsimp only
  cases s env' ro w with
  | go fl env w => cases fl <;> rfl
  | _ => rfl
@[simp] theorem for_nm {n : Nat} {ds : List D} : forL (.nm n) s (d :: ds) env ro w = (s (env.set n (some d)) ro w).turn fun env2 w2 => forL (.nm n) s ds env2 ro w2 := for_cons rfl
def seqV (d : D) (w : List D) : Out (List D) := match d with
  | .lst ds => .ok ds w
  | .tup ds => .ok ds w
  | _ => .no
@[simp] theorem seqV_lst {ds : List D} : seqV (.lst ds) w = .ok ds w := rfl
@[simp] theorem seqV_tup {ds : List D} : seqV (.tup ds) w = .ok ds w := rfl
@[simp] theorem x_seqI : cSeq fa env ro w = (fa env ro w).an fun d w1 => seqV d w1 := by
  show M.bind (fa env) _ ro w = _
  rw [x_bind]
  congr
  funext d w1
  cases d <;> rfl
@[simp] theorem x_rng1 {fs : Env → M (List D)} : cRng1 fs env ro w = (fs env ro w).an fun ds w1 => gRng1 ds ro w1 := by
  show M.bind (fs env) _ ro w = _
  simp
@[simp] theorem x_rng2 {fs : Env → M (List D)} : cRng2 fs env ro w = (fs env ro w).an fun ds w1 => gRng2 ds ro w1 := by
  show M.bind (fs env) _ ro w = _
  simp
theorem rng1_int : gRng1 [.int i] ro w = if i.natAbs < 2 ^ 62 then .ok (rngD 0 i.toNat) w else .no := rfl
@[simp] theorem x_rev {fs : Env → M (List D)} : cRev fs env ro w = (fs env ro w).an fun ds w1 => gRev ds ro w1 := by
  show M.bind (fs env) _ ro w = _
  simp
@[simp] theorem rev_lst {ds : List D} : gRev [.lst ds] ro w = .ok ds.reverse w := rfl
theorem x_comp {tg : Tg} {own : List Nat} {it : Env → M (List D)} {k : List D → M D} : cComp tg own it ta fa k env ro w = (it env ro w).an fun ds w1 => if ds.length ≤ sizeLine then (compR tg ta fa (wipeE env own) ds ro w1).an fun r w2 => k r ro w2 else .no := by
  show M.bind (few it env) _ ro w = _
  unfold few
  simp only [x_bind]
  cases it env ro w with
  | ok ds w1 =>
    simp only [an_ok]
    by_cases h : ds.length ≤ sizeLine
    · simp only [if_pos h, an_ok]
    · simp only [if_neg h, an_no]
  | _ => rfl
@[simp] theorem comp_nil {tg : Tg} : compR tg ta fa env [] ro w = .ok [] w := rfl
theorem comp_cons {tg : Tg} {ds : List D} (h : tg.put d env = some env') : compR tg ta fa env (d :: ds) ro w = (ta env' ro w).calm.an fun b w1 => if b = true then (fa env' ro w1).calm.an fun x w2 => (compR tg ta fa env ds ro w2).an fun r w3 => .ok (x :: r) w3 else compR tg ta fa env ds ro w1 := by
  show (match tg.put d env with
    | none => M.no
    | some env1 => M.bind (M.calm (ta env1)) fun b => if b = true then M.bind (M.calm (fa env1)) fun x => M.bind (compR tg ta fa env ds) fun r => M.pure (x :: r) else compR tg ta fa env ds) ro w = _
  rw [h]
  simp only [x_bind, x_calm]
  congr
  funext b w1
  cases b <;> simp
@[simp] theorem comp_nm {n : Nat} {ds : List D} : compR (.nm n) ta fa env (d :: ds) ro w = (ta (env.set n (some d)) ro w).calm.an fun b w1 => if b = true then (fa (env.set n (some d)) ro w1).calm.an fun x w2 => (compR (.nm n) ta fa env ds ro w2).an fun r w3 => .ok (x :: r) w3 else compR (.nm n) ta fa env ds ro w1 := comp_cons rfl
@[simp] theorem x_still {ds : List D} : kStill ds ro w = .ok (.lst ds) w := rfl
@[simp] theorem x_mut {ds : List D} : kMut ds ro w = .ok (.ref (ro.length + w.length)) (w ++ [.lst ds]) := by
  show mNew _ ro w = _
  simp
theorem x_def {np N : Nat} {ds : List D} : runDef np N s ds ro w = if ds.length = np then (s (ds.map some ++ List.replicate (N - np) none) ro w).fin else .no := by
  unfold runDef OS.fin
  by_cases h : ds.length = np
  · simp only [if_pos h]
    all_goals
      cases s (ds.map some ++ List.replicate (N - np) none) ro w with
      | go fl env w => cases fl <;> rfl
      | _ => rfl
  · simp only [if_neg h]
/-! a list that changes -/
theorem mod_at {f : List D → Option (D × List D)} {n : Nat} {ds ds' : List D} (hn : ro.length ≤ n) (h : w[n - ro.length]? = some (.lst ds)) (hf : f ds = some (d, ds')) : mMod f (.ref n) ro w = .ok d (w.set (n - ro.length) (.lst ds')) := by
  unfold mMod
  simp only [if_neg (Nat.not_lt.mpr hn), h, hf]
def mlV (o : D) (k : List D → Out D) (w : List D) : Out D := match o with
  | .lst _ => k w
  | _ => .no
@[simp] theorem mlV_lst {ds : List D} {k : List D → Out D} : mlV (.lst ds) k w = k w := rfl
@[simp] theorem x_ml {g : List D → D → M D} {fo : EF} {fs : Env → M (List D)} : cMl g fo fs env ro w = (fo env ro w).an fun o w1 => mlV (see ro w1 o) (fun w1 => (fs env ro w1).an fun ds w2 => g ds o ro w2) w1 := by
  show M.bind (fo env) _ ro w = _
  simp only [x_bind, x_see, an_ok]
  congr
  funext o w1
  cases see ro w1 o <;> first | rfl | simp [mlV]
end
end Fx
/-! Equal data; formulas as data. -/
namespace Fx
open PySem PySem.Spec L2

theorem ofString_inj {a b : String} : (Str.ofString a = Str.ofString b) = (a = b) := by
  apply propext
  refine ⟨fun h => ?_, fun h => by rw [h]⟩
  rw [Str.ofString_eq_toList, Str.ofString_eq_toList] at h
  have h1 : a.toList.map Char.toNat = b.toList.map Char.toNat := by
    injection h with h
    have := congrArg Array.toList h
    simpa using this
  have inj : ∀ x y : Char, x.toNat = y.toNat → x = y := fun x y e => Char.toNat_inj.mp e
  have h2 : a.toList = b.toList := by
    revert h1
    generalize a.toList = l
    generalize b.toList = m
    induction l generalizing m with
    | nil => intro h; cases m <;> simp_all
    | cons x l ih =>
      intro h
      cases m with
      | nil => simp at h
      | cons y m =>
        simp only [List.map_cons, List.cons.injEq] at h
        rw [inj _ _ h.1, ih _ h.2]
  exact String.toList_inj.mp h2
noncomputable instance : DecidableEq D := fun _ _ => Classical.propDecidable _

@[simp] theorem ok_lit {a : String} : PyData.strOk (Str.ofString a) = true := by
  unfold PyData.strOk
  rw [Str.ofString_eq_toList, ← Array.all_toList]
  simp only [List.all_map, List.all_eq_true]
  intro c _
  have h := c.valid
  simp only [Function.comp, decide_eq_true_eq]
  rcases h with h | h
  · have : c.toNat < 0xd800 := h
    omega
  · have : c.toNat < 0x110000 := h.2
    omega

/-! ### data without truth values -/
mutual
def D.nb : D → Bool
  | .non => true
  | .int _ => true
  | .str _ => true
  | .tup ds => D.nbs ds
  | .lst ds => D.nbs ds
  | _ => false
def D.nbs : List D → Bool
  | [] => true
  | d :: ds => d.nb && D.nbs ds
end
mutual
theorem D.nb_flat : ∀ d : D, d.nb = true → d.flat = true
  | .non, _ => rfl
  | .int _, _ => rfl
  | .str _, _ => rfl
  | .tup ds, h => by
    simp only [D.nb] at h
    simpa only [D.flat] using D.nbs_flat ds h
  | .lst ds, h => by
    simp only [D.nb] at h
    simpa only [D.flat] using D.nbs_flat ds h
  | .bl _, h => by simp [D.nb] at h
  | .dic _ _, h => by simp [D.nb] at h
  | .dct _ _, h => by simp [D.nb] at h
  | .ins _ _ _, h => by simp [D.nb] at h
  | .fn _, h => by simp [D.nb] at h
  | .rng _, h => by simp [D.nb] at h
  | .ref _, h => by simp [D.nb] at h
theorem D.nbs_flat : ∀ ds : List D, D.nbs ds = true → D.flats ds = true
  | [], _ => rfl
  | d :: ds, h => by
    simp only [D.nbs, Bool.and_eq_true] at h
    simp only [D.flats, Bool.and_eq_true]
    exact ⟨D.nb_flat d h.1, D.nbs_flat ds h.2⟩
end
mutual
theorem eqv_nb : ∀ (d e : D), d.nb = true → e.nb = true → (PyData.eqv d.py e.py = true ↔ d = e)
  | .bl _, _, h, _ => by simp [D.nb] at h
  | .dic _ _, _, h, _ => by simp [D.nb] at h
  | .dct _ _, _, h, _ => by simp [D.nb] at h
  | .ins _ _ _, _, h, _ => by simp [D.nb] at h
  | .fn _, _, h, _ => by simp [D.nb] at h
  | .rng _, _, h, _ => by simp [D.nb] at h
  | .ref _, _, h, _ => by simp [D.nb] at h
  | .non, e, _, h => by cases e <;> simp_all [D.nb, D.py, PyData.eqv]
  | .int i, e, _, h => by cases e <;> simp_all [D.nb, D.py, PyData.eqv]
  | .str i, e, _, h => by cases e <;> simp_all [D.nb, D.py, PyData.eqv]
  | .tup ds, e, h', h => by
    cases e with
    | tup es =>
      simp only [D.nb] at h h'
      simp only [D.py, PyData.eqv, D.tup.injEq]
      exact eqvs_nb ds es h' h
    | _ => simp_all [D.nb, D.py, PyData.eqv]
  | .lst ds, e, h', h => by
    cases e with
    | lst es =>
      simp only [D.nb] at h h'
      simp only [D.py, PyData.eqv, D.lst.injEq]
      exact eqvs_nb ds es h' h
    | _ => simp_all [D.nb, D.py, PyData.eqv]
theorem eqvs_nb : ∀ (ds es : List D), D.nbs ds = true → D.nbs es = true → (PyData.eqvAll (D.pys ds) (D.pys es) = true ↔ ds = es)
  | [], [], _, _ => by simp [D.pys, PyData.eqvAll]
  | [], _ :: _, _, _ => by simp [D.pys, PyData.eqvAll]
  | _ :: _, [], _, _ => by simp [D.pys, PyData.eqvAll]
  | d :: ds, e :: es, h, h' => by
    simp only [D.nbs, Bool.and_eq_true] at h h'
    simp only [D.pys, PyData.eqvAll, Bool.and_eq_true, List.cons.injEq]
    rw [eqv_nb d e h.1 h'.1, eqvs_nb ds es h.2 h'.2]
end
theorem eqv_dec {d e : D} (hd : d.nb = true) (he : e.nb = true) : PyData.eqv d.py e.py = decide (d = e) := by
  rw [Bool.eq_iff_iff, decide_eq_true_eq]
  exact eqv_nb d e hd he
/-- data that can be compared, without truth values -/
def D.eqo (d : D) : Bool := d.nb && SeqAt.shaped d.py
theorem D.eqo_cmp {d : D} (h : d.eqo = true) : d.cmp = true := by
  simp only [D.eqo, Bool.and_eq_true] at h
  simp only [D.cmp, Bool.and_eq_true]
  exact ⟨D.nb_flat d h.1, h.2⟩
theorem D.eqo_nb {d : D} (h : d.eqo = true) : d.nb = true := by
  simp only [D.eqo, Bool.and_eq_true] at h
  exact h.1
theorem eq_eqo {d e : D} {ro w : List D} (hd : d.eqo = true) (he : e.eqo = true) : gEq d e ro w = .ok (.bl (decide (d = e))) w := by
  rw [x_eq, if_pos (by rw [D.eqo_cmp hd, D.eqo_cmp he]; rfl), eqv_dec (D.eqo_nb hd) (D.eqo_nb he)]
theorem ne_eqo {d e : D} {ro w : List D} (hd : d.eqo = true) (he : e.eqo = true) : gNe d e ro w = .ok (.bl (!decide (d = e))) w := by
  rw [x_ne, if_pos (by rw [D.eqo_cmp hd, D.eqo_cmp he]; rfl), eqv_dec (D.eqo_nb hd) (D.eqo_nb he)]
/-! depth, and that texts are texts -/
mutual
def D.lay : D → Bool
  | .str x => PyData.strOk x
  | .tup ds => D.lays ds
  | .lst ds => D.lays ds
  | _ => true
def D.lays : List D → Bool
  | [] => true
  | d :: ds => d.lay && D.lays ds
end
mutual
def D.dp : D → Nat
  | .tup ds => D.dps ds + 1
  | .lst ds => D.dps ds + 1
  | _ => 0
def D.dps : List D → Nat
  | [] => 0
  | d :: ds => max d.dp (D.dps ds)
end
mutual
theorem D.py_lay : ∀ d : D, d.py.canLay0 = d.lay
  | .str _ => rfl
  | .tup ds => by simp only [D.py, PyData.canLay0, D.lay, D.pys_lay ds]
  | .lst ds => by simp only [D.py, PyData.canLay0, D.lay, D.pys_lay ds]
  | .bl _ => rfl
  | .dic _ _ => rfl
  | .dct _ _ => rfl
  | .ins _ _ _ => rfl
  | .fn _ => rfl
  | .rng _ => rfl
  | .ref _ => rfl
  | .non => rfl
  | .int _ => rfl
theorem D.pys_lay : ∀ ds : List D, PyData.canLayAll0 (D.pys ds) = D.lays ds
  | [] => rfl
  | d :: ds => by simp only [D.pys, PyData.canLayAll0, D.lays, D.py_lay d, D.pys_lay ds]
end
mutual
theorem D.py_dp : ∀ d : D, d.py.depth = d.dp
  | .str _ => rfl
  | .tup ds => by simp only [D.py, PyData.depth, D.dp, D.pys_dp ds]
  | .lst ds => by simp only [D.py, PyData.depth, D.dp, D.pys_dp ds]
  | .bl _ => rfl
  | .dic _ _ => rfl
  | .dct _ _ => rfl
  | .ins _ _ _ => rfl
  | .fn _ => rfl
  | .rng _ => rfl
  | .ref _ => rfl
  | .non => rfl
  | .int _ => rfl
theorem D.pys_dp : ∀ ds : List D, PyData.depthAll (D.pys ds) = D.dps ds
  | [] => rfl
  | d :: ds => by simp only [D.pys, PyData.depthAll, D.dps, D.py_dp d, D.pys_dp ds]
end
theorem eqo_of {d : D} (h1 : d.nb = true) (h2 : d.lay = true) (h3 : d.dp ≤ 64) : d.eqo = true := by
  unfold D.eqo SeqAt.shaped
  rw [D.py_lay, D.py_dp, h1, h2]
  simpa using h3
theorem nbs_iff {ds : List D} : D.nbs ds = true ↔ ∀ d ∈ ds, d.nb = true := by
  induction ds with
  | nil => simp [D.nbs]
  | cons d ds ih => simp [D.nbs, ih]
theorem lays_iff {ds : List D} : D.lays ds = true ↔ ∀ d ∈ ds, d.lay = true := by
  induction ds with
  | nil => simp [D.lays]
  | cons d ds ih => simp [D.lays, ih]
theorem dps_iff {ds : List D} {n : Nat} : D.dps ds ≤ n ↔ ∀ d ∈ ds, d.dp ≤ n := by
  induction ds with
  | nil => simp [D.dps]
  | cons d ds ih => simp [D.dps, ih, Nat.max_le]
@[simp] theorem eqo_int {i : Int} : (D.int i).eqo = true := eqo_of rfl rfl (Nat.zero_le _)
@[simp] theorem eqo_non : D.non.eqo = true := eqo_of rfl rfl (Nat.zero_le _)
theorem eqo_str {x : Str} (h : PyData.strOk x = true) : (D.str x).eqo = true := eqo_of rfl h (Nat.zero_le _)
theorem eq_str {x y : Str} {ro w : List D} (hx : PyData.strOk x = true) (hy : PyData.strOk y = true) : gEq (.str x) (.str y) ro w = .ok (.bl (decide (x = y))) w := by
  rw [eq_eqo (eqo_str hx) (eqo_str hy)]
  simp
theorem ne_str {x y : Str} {ro w : List D} (hx : PyData.strOk x = true) (hy : PyData.strOk y = true) : gNe (.str x) (.str y) ro w = .ok (.bl (!decide (x = y))) w := by
  rw [ne_eqo (eqo_str hx) (eqo_str hy)]
  simp

/-! ### whole numbers -/
theorem nbs_ints {ns : List Int} : D.nbs (ns.map .int) = true := nbs_iff.mpr (by simp [D.nb])
theorem lays_ints {ns : List Int} : D.lays (ns.map .int) = true := lays_iff.mpr (by simp [D.lay])
theorem dps_ints {ns : List Int} : D.dps (ns.map .int) ≤ 0 := dps_iff.mpr (by simp [D.dp])
theorem eqo_ints {ns : List Int} : (D.lst (ns.map .int)).eqo = true := eqo_of (by simpa [D.nb] using nbs_ints) (by simpa [D.lay] using lays_ints) (by simp only [D.dp]; have := @dps_ints ns; omega)
theorem atI_nat {α : Type} {xs : List α} {i : Nat} : L2.atI xs (i : Int) = xs[i]? := by
  unfold L2.atI L2.ixN
  rw [if_pos (Int.natCast_nonneg i)]
  by_cases h : (i : Int) < xs.length
  · rw [if_pos h]
    simp
  · rw [if_neg h]
    simp only [Option.bind_none]
    rw [List.getElem?_eq_none (by omega)]
theorem rngD_nat {n : Nat} : rngD 0 n = (List.range n).map fun (i : Nat) => .int i := by
  unfold rngD
  simp

/-! ### formulas -/
inductive Fm where
  | fal
  | var (x : Str)
  | imp (a b : Fm)
  | and (a b : Fm)
  | or (a b : Fm)
  | box (a : Fm)
  deriving DecidableEq
def Fm.toD : Fm → D
  | .fal => .tup [.str "falsum"]
  | .var x => .tup [.str "var", .str x]
  | .imp a b => .tup [.str "implies", a.toD, b.toD]
  | .and a b => .tup [.str "and", a.toD, b.toD]
  | .or a b => .tup [.str "or", a.toD, b.toD]
  | .box a => .tup [.str "box", a.toD]
def Fm.ht : Fm → Nat
  | .fal => 1
  | .var _ => 1
  | .imp a b => max a.ht b.ht + 1
  | .and a b => max a.ht b.ht + 1
  | .or a b => max a.ht b.ht + 1
  | .box a => a.ht + 1
def Fm.Over (P : Str → Prop) : Fm → Prop
  | .fal => True
  | .var x => P x
  | .imp a b => a.Over P ∧ b.Over P
  | .and a b => a.Over P ∧ b.Over P
  | .or a b => a.Over P ∧ b.Over P
  | .box a => a.Over P
def Fm.plain : Fm → Bool
  | .fal => true
  | .var _ => true
  | .imp a b => a.plain && b.plain
  | .and a b => a.plain && b.plain
  | .or a b => a.plain && b.plain
  | .box a => false
theorem Fm.Over.mono {P Q : Str → Prop} (h : ∀ x, P x → Q x) : ∀ (φ : Fm), φ.Over P → φ.Over Q
  | .fal, _ => trivial
  | .var _, g => h _ g
  | .imp a b, g => ⟨Fm.Over.mono h a g.1, Fm.Over.mono h b g.2⟩
  | .and a b, g => ⟨Fm.Over.mono h a g.1, Fm.Over.mono h b g.2⟩
  | .or a b, g => ⟨Fm.Over.mono h a g.1, Fm.Over.mono h b g.2⟩
  | .box a, g => Fm.Over.mono h a g
theorem Fm.ht_pos : ∀ φ : Fm, 0 < φ.ht
  | .fal => by decide
  | .var _ => by simp [Fm.ht]
  | .imp _ _ => Nat.succ_pos _
  | .and _ _ => Nat.succ_pos _
  | .or _ _ => Nat.succ_pos _
  | .box _ => Nat.succ_pos _
theorem Fm.dp : ∀ φ : Fm, φ.toD.dp = φ.ht
  | .fal => rfl
  | .var _ => rfl
  | .imp a b => by simp [Fm.toD, D.dp, D.dps, Fm.ht, a.dp, b.dp]
  | .and a b => by simp [Fm.toD, D.dp, D.dps, Fm.ht, a.dp, b.dp]
  | .or a b => by simp [Fm.toD, D.dp, D.dps, Fm.ht, a.dp, b.dp]
  | .box a => by simp [Fm.toD, D.dp, D.dps, Fm.ht, a.dp]
theorem Fm.nb : ∀ φ : Fm, φ.toD.nb = true
  | .fal => rfl
  | .var _ => rfl
  | .imp a b => by simp [Fm.toD, D.nb, D.nbs, a.nb, b.nb]
  | .and a b => by simp [Fm.toD, D.nb, D.nbs, a.nb, b.nb]
  | .or a b => by simp [Fm.toD, D.nb, D.nbs, a.nb, b.nb]
  | .box a => by simp [Fm.toD, D.nb, D.nbs, a.nb]
theorem Fm.lay : ∀ φ : Fm, φ.Over (fun x => PyData.strOk x = true) → φ.toD.lay = true
  | .fal, _ => by simp [Fm.toD, D.lay, D.lays]
  | .var _, h => by
    have h' := h
    simp only [Fm.Over] at h'
    simp [Fm.toD, D.lay, D.lays, h']
  | .imp a b, h => by simp [Fm.toD, D.lay, D.lays, a.lay h.1, b.lay h.2]
  | .and a b, h => by simp [Fm.toD, D.lay, D.lays, a.lay h.1, b.lay h.2]
  | .or a b, h => by simp [Fm.toD, D.lay, D.lays, a.lay h.1, b.lay h.2]
  | .box a, h => by simp [Fm.toD, D.lay, D.lays, Fm.lay a h]
theorem Fm.eqo {φ : Fm} (h : φ.Over (fun x => PyData.strOk x = true)) (n : φ.ht ≤ 64) : φ.toD.eqo = true := eqo_of φ.nb (φ.lay h) (by rw [φ.dp]; exact n)
@[simp] theorem Fm.toD_inj : ∀ {φ ψ : Fm}, (φ.toD = ψ.toD) ↔ φ = ψ
  | .fal, ψ => by cases ψ <;> simp [Fm.toD, ofString_inj]
  | .var _, ψ => by cases ψ <;> simp [Fm.toD, ofString_inj]
  | .imp a b, ψ => by cases ψ <;> simp [Fm.toD, ofString_inj, a.toD_inj, b.toD_inj]
  | .and a b, ψ => by cases ψ <;> simp [Fm.toD, ofString_inj, a.toD_inj, b.toD_inj]
  | .or a b, ψ => by cases ψ <;> simp [Fm.toD, ofString_inj, a.toD_inj, b.toD_inj]
  | .box a, ψ => by cases ψ <;> simp [Fm.toD, ofString_inj, a.toD_inj]
end Fx
/-! What the laws draw with, and what they compare with. -/
namespace Fx
open PySem PySem.Spec L2
namespace Lw
end Lw
def PoolOk (d : D) : Prop := ∃ (cs : List Int) (i : Nat) (x k s : Int), d = .lst [.lst (cs.map .int), .int i, .int x, .int k, .int s]
def DrawSpec (f : List D → M D) : Prop := ∀ (P : D) (r : List D) (m : Int), PoolOk P → 0 < m → m < 1073741824 → ∃ (v : Int) (P' : D), f [.ref 0, .int m] [] (P :: r) = .ok (.int v) (P' :: r) ∧ 0 ≤ v ∧ v < m ∧ PoolOk P'
namespace Lw
end Lw
@[simp] theorem atI_lit {α : Type} {xs : List α} {n : Nat} : L2.atI xs (no_index (OfNat.ofNat n : Int)) = xs[n]? := atI_nat
theorem ixN_nat {m n : Nat} : L2.ixN m (n : Int) = if n < m then some n else none := by
  unfold L2.ixN
  rw [if_pos (Int.natCast_nonneg n)]
  by_cases h : n < m
  · rw [if_pos h, if_pos (Int.ofNat_lt.mpr h)]
    rfl
  · rw [if_neg h, if_neg (fun q => h (Int.ofNat_lt.mp q))]
@[simp] theorem ixN_lit {m n : Nat} : L2.ixN m (no_index (OfNat.ofNat n : Int)) = if n < m then some n else none := ixN_nat
theorem put_own {w : List D} {n : Nat} {k : Int} {v : D} {ds : List D} {j : Nat} (h : w[n]? = some (.lst ds)) (hj : L2.ixN ds.length k = some j) : gPut v (.ref n) (.int k) [] w = .ok .non (w.set n (.lst (ds.set j v))) := by
  unfold gPut mMod
  simp [h, hj]
@[simp] theorem put_0 {k : Nat} {v : D} {ds r : List D} : gPut v (.ref 0) (.int (no_index (OfNat.ofNat k : Int))) [] (.lst ds :: r) = if k < ds.length then .ok .non (.lst (ds.set k v) :: r) else .no := by
  unfold gPut mMod
  by_cases h : k < ds.length <;> simp [h]
@[simp] theorem see_0 {d : D} {r : List D} : see [] (d :: r) (.ref 0) = d := rfl
namespace Lw
end Lw
/-! ### more of what is asked -/
def inV (o : Option Bool) (w : List D) : Out D := match o with
  | some b => .ok (.bl b) w
  | none => .no
@[simp] theorem inV_s {b : Bool} {w : List D} : inV (some b) w = .ok (.bl b) w := rfl
theorem x_inV {d e : D} {ro w : List D} : gIn d e ro w = inV (inD d e) w := by
  unfold gIn inV
  cases inD d e <;> rfl
@[simp] theorem in_tup_int {i : Int} {ds : List D} {ro w : List D} : gIn (.int i) (.tup ds) ro w = inV (if ds.all D.sc = true then some (ds.any fun d => d.eqs (.int i)) else none) w := by
  rw [x_inV]
  simp [inD, D.sc]
@[simp] theorem in_tup_str {i : Str} {ds : List D} {ro w : List D} : gIn (.str i) (.tup ds) ro w = inV (if ds.all D.sc = true then some (ds.any fun d => d.eqs (.str i)) else none) w := by
  rw [x_inV]
  simp [inD, D.sc]
@[simp] theorem sc_int {i : Int} : (D.int i).sc = true := rfl
@[simp] theorem sc_str {i : Str} : (D.str i).sc = true := rfl
@[simp] theorem eqs_int {i j : Int} : (D.int i).eqs (.int j) = decide (i = j) := Bool.beq_eq_decide_eq _ _
@[simp] theorem eqs_str {i j : Str} : (D.str i).eqs (.str j) = decide (i = j) := Bool.beq_eq_decide_eq _ _
def pqr (x : Str) : Prop := x = "p" ∨ x = "q" ∨ x = "r"
theorem rng1_nat {n : Nat} {ro w : List D} (h : n ≤ 4611686018427387903) : gRng1 [.int (n : Int)] ro w = .ok (rngD 0 n) w := by
  rw [rng1_int, if_pos (by omega)]
  rfl
namespace Lw
end Lw
end Fx
namespace Fx
open PySem PySem.Spec L2
namespace Lw
end Lw
end Fx
namespace Fx
open PySem PySem.Spec L2
/-! ### _law_same on the same data -/
@[simp] theorem atI_nat' {α : Type} {xs : List α} {i : Nat} : L2.atI xs (i : Int) = xs[i]? := atI_nat
namespace Lw
end Lw
end Fx
/-! sum, max, min of whole numbers; default= -/
namespace Fx
open PySem PySem.Spec L2
def intsOf : List D → Option (List Int)
  | [] => some []
  | .int i :: r => (intsOf r).map (i :: ·)
  | _ => none
@[simp] theorem intsOf_map {ns : List Int} : intsOf (ns.map .int) = some ns := by
  induction ns with
  | nil => rfl
  | cons n ns ih => simp [intsOf, ih]
section
variable {C : Cfg} {ρ : Zn} {H : Hp}
theorem Reps.ints : ∀ {ns : List Int} {vs : List V}, Reps C ρ H (ns.map .int) vs → vs = ns.map V.int
  | [], vs, h => h
  | n :: ns, vs, ⟨v, r, e, h1, h2⟩ => by
    rw [e, show v = V.int n from h1, Reps.ints h2]
    rfl
def gSum : D → M D
  | .lst ds => match intsOf ds with
    | some ns => M.pure (.int ns.sum)
    | none => M.no
  | _ => M.no
def maxI : List Int → Int
  | [] => 0
  | n :: ns => ns.foldl max n
def gMax : D → M D
  | .lst ds => match intsOf ds with
    | some ns => if 0 < ns.length then M.pure (.int (maxI ns)) else M.no
    | none => M.no
  | _ => M.no
end

def gMaxD (d z : D) : M D := match d with
  | .lst ds => match intsOf ds with
    | some ns => if ns = [] then M.pure z else M.pure (.int (maxI ns))
    | none => M.no
  | _ => M.no
def cMaxD (fa fb : EF) : EF := fun env => M.bind (fa env) fun d => M.bind (fb env) fun z => M.bind (M.see d) fun d => gMaxD d z
section
variable {X : Cx} {W : WX} {fa fb : EF} {e e2 : Expr} {p pos kpos : Pos}
end
section
variable {fa fb : EF} {env : Fx.Env} {ro w : List D} {ns : List Int}
@[simp] theorem x_maxD : cMaxD fa fb env ro w = (fa env ro w).an fun d w1 => (fb env ro w1).an fun z w2 => gMaxD (see ro w2 d) z ro w2 := by
  show M.bind (fa env) _ ro w = _
  simp
@[simp] theorem maxD_ints {z : D} : gMaxD (.lst (ns.map .int)) z ro w = .ok (if ns = [] then z else .int (maxI ns)) w := by
  unfold gMaxD
  simp only [intsOf_map]
  by_cases c : ns = [] <;> simp [c]
@[simp] theorem max_ints (h : 0 < ns.length) : gMax (.lst (ns.map .int)) ro w = .ok (.int (maxI ns)) w := by
  unfold gMax
  simp [h]
@[simp] theorem sum_ints : gSum (.lst (ns.map .int)) ro w = .ok (.int ns.sum) w := by
  unfold gSum
  simp
end
end Fx
/-! Formulas taken apart; lists made of lists. -/
namespace Fx
open PySem PySem.Spec L2
section
variable {α : Type} {k : Nat} {fa : EF} {ta : Fx.Env → M Bool} {env : Fx.Env} {ro w : List D}
theorem comp_all {h g : α → D} : ∀ {l : List α}, (∀ a ∈ l, fa (env.set k (some (h a))) ro w = .ok (g a) w) → compR (.nm k) cYes fa env (l.map h) ro w = .ok (l.map g) w
  | [], _ => rfl
  | a :: l, H => by
    have ih := comp_all (h := h) (g := g) (l := l) fun b hb => H b (by simp [hb])
    simp [H a (by simp), ih]
theorem comp_filt {h g : α → D} {p : α → Bool} : ∀ {l : List α}, (∀ a ∈ l, ta (env.set k (some (h a))) ro w = .ok (p a) w) → (∀ a ∈ l, p a = true → fa (env.set k (some (h a))) ro w = .ok (g a) w) → compR (.nm k) ta fa env (l.map h) ro w = .ok ((l.filter p).map g) w
  | [], _, _ => rfl
  | a :: l, H, G => by
    have ih := comp_filt (h := h) (g := g) (p := p) (l := l) (fun b hb => H b (by simp [hb])) (fun b hb => G b (by simp [hb]))
    by_cases c : p a = true
    · simp [H a (by simp), G a (by simp) c, ih, c]
    · have c' : p a = false := by simpa using c
      simp [H a (by simp), ih, c']
end
theorem cut_tail {α : Type} {a : α} {r : List α} : cut (a :: r) (some 1) none = r := by
  unfold cut HT.sIx
  simp
@[simp] theorem see_fm {φ : Fm} {ro w : List D} : see ro w φ.toD = φ.toD := by cases φ <;> rfl
def Fm.tag : Fm → Str
  | .fal => "falsum"
  | .var _ => "var"
  | .imp _ _ => "implies"
  | .and _ _ => "and"
  | .or _ _ => "or"
  | .box _ => "box"
def Fm.parts : Fm → List Fm
  | .fal => []
  | .var _ => []
  | .imp a b => [a, b]
  | .and a b => [a, b]
  | .or a b => [a, b]
  | .box a => [a]
@[simp] theorem Fm.ix0 {φ : Fm} {ro w : List D} : gIx φ.toD (.int 0) ro w = .ok (.str φ.tag) w := by cases φ <;> simp [Fm.toD, Fm.tag]
@[simp] theorem Fm.tag_ok {φ : Fm} : PyData.strOk φ.tag = true := by cases φ <;> exact ok_lit
theorem Fm.sl1 {φ : Fm} {ro w : List D} (h : φ.parts ≠ []) : gSl φ.toD (some 1) none ro w = .ok (.tup (φ.parts.map Fm.toD)) w := by cases φ <;> simp [Fm.toD, Fm.parts, cut_tail] at h ⊢
@[simp] theorem Fm.tag_box {φ : Fm} : φ.tag = "box" ↔ ∃ a, φ = .box a := by cases φ <;> simp [Fm.tag, ofString_inj]
@[simp] theorem Fm.tag_var {φ : Fm} : φ.tag = "var" ↔ ∃ a, φ = .var a := by cases φ <;> simp [Fm.tag, ofString_inj]
theorem Fm.part_ht {φ ψ : Fm} (h : ψ ∈ φ.parts) : ψ.ht < φ.ht := by
  cases φ <;> simp [Fm.parts] at h <;> (try rcases h with rfl | rfl) <;> (try subst h) <;> simp only [Fm.ht] <;> omega
def Fm.sz : Fm → Nat
  | .fal => 1
  | .var _ => 1
  | .imp a b => a.sz + b.sz + 1
  | .and a b => a.sz + b.sz + 1
  | .or a b => a.sz + b.sz + 1
  | .box a => a.sz + 1
theorem Fm.sz_lt : ∀ φ : Fm, φ.sz < 2 ^ φ.ht
  | .fal => by decide
  | .var _ => by simp [Fm.sz, Fm.ht]
  | .imp a b => by
    have h1 := a.sz_lt
    have h2 := b.sz_lt
    have h3 : 2 ^ a.ht ≤ 2 ^ max a.ht b.ht := Nat.pow_le_pow_right (by decide) (by omega)
    have h4 : 2 ^ b.ht ≤ 2 ^ max a.ht b.ht := Nat.pow_le_pow_right (by decide) (by omega)
    simp only [Fm.sz, Fm.ht, Nat.pow_succ]
    omega
  | .and a b => by
    have h1 := a.sz_lt
    have h2 := b.sz_lt
    have h3 : 2 ^ a.ht ≤ 2 ^ max a.ht b.ht := Nat.pow_le_pow_right (by decide) (by omega)
    have h4 : 2 ^ b.ht ≤ 2 ^ max a.ht b.ht := Nat.pow_le_pow_right (by decide) (by omega)
    simp only [Fm.sz, Fm.ht, Nat.pow_succ]
    omega
  | .or a b => by
    have h1 := a.sz_lt
    have h2 := b.sz_lt
    have h3 : 2 ^ a.ht ≤ 2 ^ max a.ht b.ht := Nat.pow_le_pow_right (by decide) (by omega)
    have h4 : 2 ^ b.ht ≤ 2 ^ max a.ht b.ht := Nat.pow_le_pow_right (by decide) (by omega)
    simp only [Fm.sz, Fm.ht, Nat.pow_succ]
    omega
  | .box a => by
    have h1 := a.sz_lt
    simp only [Fm.sz, Fm.ht, Nat.pow_succ]
    omega
/-- all formulas in it, with repetitions -/
def Fm.all : Fm → List Fm
  | .fal => [.fal]
  | .var x => [.var x]
  | .imp a b => .imp a b :: (a.all ++ b.all)
  | .and a b => .and a b :: (a.all ++ b.all)
  | .or a b => .or a b :: (a.all ++ b.all)
  | .box a => .box a :: a.all
theorem Fm.all_len : ∀ φ : Fm, φ.all.length = φ.sz
  | .fal => rfl
  | .var _ => rfl
  | .imp a b => by simp [Fm.all, Fm.sz, a.all_len, b.all_len]
  | .and a b => by simp [Fm.all, Fm.sz, a.all_len, b.all_len]
  | .or a b => by simp [Fm.all, Fm.sz, a.all_len, b.all_len]
  | .box a => by simp [Fm.all, Fm.sz, a.all_len]
theorem Fm.all_parts (φ : Fm) : φ.all = φ :: φ.parts.flatMap Fm.all := by cases φ <;> simp [Fm.all, Fm.parts]
end Fx
/-! Defs as values. -/
namespace Fx
open PySem PySem.Spec L2
section
variable {X : Cx} {W : WX} {n np i : Nat} {x : Str} {g : List D → M D} {p pos : Pos} {e : Expr} {es : List Expr} {fs : Fx.Env → M (List D)}
/-- the defs that a name may hold -/
abbrev Tab := List (Str × Nat × (List D → M D))
def Tab.get (T : Tab) (x : Str) : Option (List D → M D) := match T.find? (fun q => q.1 == x) with
  | some (_, np, g) => some fun ds => if ds.length = np then g ds else M.no
  | none => none
def TabOk (X : Cx) (n : Nat) (T : Tab) : Prop := ∀ q ∈ T, CallX X n q.1 q.2.2 q.2.1
end
@[simp] theorem see_fn {x : Str} {ro w : List D} : see ro w (.fn x) = .fn x := rfl
end Fx
/-! What the program's and the laws' functions of formulas do. -/
namespace Fx
open PySem PySem.Spec L2
def F_law_all (c_law_all : List D → M D) (c_law_parts : List D → M D) : SF :=
  sSeq (sSet 1 (cLst (cArgs [cVar 0])))
  (sSeq (sFor (.nm 2) (cSeq (cCall (fun ds => if ds.length = 1 then c_law_parts ds else M.no) (cArgs [cVar 0]))) (sSet 1 (cBin gAdd (cVar 1) (cCall (fun ds => if ds.length = 1 then c_law_all ds else M.no) (cArgs [cVar 2])))))
  (sRet (cVar 1)))

namespace Fo
theorem map_int {l : List Fm} {f : Fm → Int} : l.map (fun ψ => D.int (f ψ)) = (l.map f).map .int := by simp
def top (l : List Int) : Int := if l = [] then 0 else maxI l
def md : Fm → Nat
  | .fal => 0
  | .var _ => 0
  | .imp a b => max (md a) (md b)
  | .and a b => max (md a) (md b)
  | .or a b => max (md a) (md b)
  | .box a => md a + 1
end Fo
open Fo
def F1 (g : Fm → D) (k : Nat) (f : List D → M D) : Prop := ∀ (φ : Fm) (ro w : List D), φ.ht ≤ k → f [φ.toD] ro w = .ok (g φ) w
abbrev gL (φ : Fm) : D := .lst (φ.parts.map Fm.toD)
abbrev gAl (φ : Fm) : D := .lst (φ.all.map Fm.toD)
namespace Pw
theorem step {g : Fm → D} {f : Fm → Int} {c : List D → M D} {k : Nat} {φ : Fm} {ro w : List D} {env : Fx.Env} {i : Nat} (hf : ∀ ψ, g ψ = .int (f ψ)) (hi : i < env.length) (hk : φ.ht ≤ k + 1) (hc : F1 g k c) : compR (.nm i) cYes (cCall (fun ds => if ds.length = 1 then c ds else M.no) (cArgs [cVar i])) env (φ.parts.map Fm.toD) ro w = .ok ((φ.parts.map f).map .int) w := by
  rw [← map_int]
  refine comp_all fun ψ hψ => ?_
  have h := Fm.part_ht hψ
  have := hc ψ ro w (by omega)
  simp [hi, this, hf]
theorem all_loop {n : Nat} {c : List D → M D} {o : Option D} {ro w : List D} : ∀ (l : List Fm) (acc : List Fm) (o' : Option D), (∀ ψ ∈ l, c [ψ.toD] ro w = .ok (gAl ψ) w) → acc.length + (l.flatMap Fm.all).length ≤ sizeLine → ∃ o'',
    forL (.nm 2) (sSet 1 (cBin gAdd (cVar 1) (cCall (fun ds => if ds.length = 1 then c ds else M.no) (cArgs [cVar 2])))) (l.map Fm.toD) [o, some (.lst (acc.map Fm.toD)), o'] ro w = .go .nx [o, some (.lst ((acc ++ l.flatMap Fm.all).map Fm.toD)), o''] w
  | [], acc, o', _, _ => ⟨o', by simp⟩
  | φ :: l, acc, o', h, hl => by
    simp only [List.flatMap_cons, List.length_append] at hl
    obtain ⟨o'', k⟩ := all_loop (n := n) l (acc ++ φ.all) (some φ.toD) (fun ψ hψ => h ψ (by simp [hψ])) (by rw [List.length_append]; omega)
    refine ⟨o'', ?_⟩
    have h1 := h φ (by simp)
    have h2 : acc.length + φ.all.length ≤ sizeLine := by omega
    have e : (acc ++ (φ :: l).flatMap Fm.all) = (acc ++ φ.all) ++ l.flatMap Fm.all := by simp
    rw [e, ← k]
    simp [h1, h2]
theorem two_pow {k : Nat} (h : k ≤ 24) : 2 ^ k ≤ sizeLine := Nat.pow_le_pow_right (by decide) h
/-- for formulas of a height of at most 24 -/
theorem all_ok {k : Nat} (h24 : k ≤ 24) {c p : List D → M D} (hp : F1 gL k p) (hc : ∀ k', k = k' + 1 → F1 gAl k' c) : F1 gAl k (runDef 1 3 (F_law_all c p)) := by
  intro φ ro w hk
  obtain ⟨m, rfl⟩ : ∃ m, k = m + 1 := ⟨k - 1, by have := φ.ht_pos; omega⟩
  have hs : φ.sz ≤ sizeLine := by
    have h1 := φ.sz_lt
    have h2 : 2 ^ φ.ht ≤ 2 ^ (m + 1) := Nat.pow_le_pow_right (by decide) hk
    have h3 := two_pow h24
    omega
  have hq := φ.all_parts
  have hl := φ.all_len
  rw [hq, List.length_cons] at hl
  obtain ⟨o'', k⟩ := all_loop (n := 0) (c := c) (o := some φ.toD) (ro := ro) (w := w) φ.parts [φ] none (fun ψ hψ => hc m rfl ψ ro w (by have := Fm.part_ht hψ; omega)) (by simp only [List.length_cons, List.length_nil]; omega)
  simp only [List.map_cons, List.map_nil] at k
  have h1 := hp φ ro w hk
  simp [x_def, F_law_all, h1, x_for, k, gAl]
  rw [hq]
  simp
end Pw
/-! negation -/
def Fm.not (a : Fm) : Fm := .imp a .fal
end Fx
/-! Dicts with numbers and texts as keys. -/
namespace Fx
open PySem PySem.Spec L2
def dget : List D → List D → D → Option D
  | q :: ks, x :: xs, k => if keyOf q = keyOf k then some x else dget ks xs k
  | _, _, _ => none
def dhas (ks : List D) (k : D) : Bool := ks.any fun q => decide (keyOf q = keyOf k)
def dputX : List D → List D → D → D → List D
  | q :: ks, x :: xs, k, v => (if keyOf q = keyOf k then v else x) :: dputX ks xs k v
  | _, _, _, _ => []
/-- the dict behind d[k] = v -/
def dput (ks xs : List D) (k v : D) : D := if dhas ks k = true then .dic ks (dputX ks xs k v) else .dic (ks ++ [k]) (xs ++ [v])
section
variable {C : Cfg} {ρ : Zn} {H : Hp}
theorem key_rep {k : D} {y : V} {κ : Key} (h : keyOf k = some κ) (r : Rep C ρ H k y) : y = kV κ := by
  cases k with
  | int i =>
    cases h
    exact r
  | str i =>
    cases h
    exact r
  | _ => cases h
theorem dget_rep {k : D} {κ : Key} (hk : keyOf k = some κ) : ∀ {kvs : List (Key × V)} {ks xs : List D}, ks.map keyOf = kvs.map (fun p => some p.1) → Reps C ρ H xs (kvs.map (·.2)) →
    (∀ d, dget ks xs k = some d → ∃ v, valV kvs κ = some v ∧ Rep C ρ H d v) ∧ (dget ks xs k = none → valV kvs κ = none)
  | [], ks, xs, h1, h2 => by
    have e1 : ks = [] := by simpa using h1
    subst e1
    exact ⟨fun d e => (by cases e), fun _ => rfl⟩
  | p :: kvs, ks, xs, h1, h2 => by
    cases ks with
    | nil => simp at h1
    | cons q ks =>
      cases xs with
      | nil => simp [Reps] at h2
      | cons x xs =>
        obtain ⟨v, r, e, g1, g2⟩ := h2
        simp only [List.map_cons, List.cons.injEq] at e h1
        obtain ⟨e1, e2⟩ := e
        subst e1 e2
        have ih := dget_rep hk (kvs := kvs) (ks := ks) (xs := xs) h1.2 g2
        unfold dget
        rw [h1.1, hk]
        by_cases c : p.1 = κ
        · rw [if_pos (by rw [c]), valV_pos c]
          exact ⟨fun d e => (by cases e; exact ⟨_, rfl, g1⟩), fun e => (by cases e)⟩
        · rw [if_neg (by simpa using c), valV_neg c]
          exact ih
theorem dhas_rep {k : D} {κ : Key} (hk : keyOf k = some κ) {kvs : List (Key × V)} {ks : List D} (h : ks.map keyOf = kvs.map (fun p => some p.1)) : dhas ks k = kvs.any fun kv => decide (kv.1 = κ) := by
  unfold dhas
  have e1 : (ks.any fun q => decide (keyOf q = keyOf k)) = (ks.map keyOf).any fun o => decide (o = keyOf k) := by rw [List.any_map]; rfl
  rw [e1, h, List.any_map, hk]
  congr 1
  funext p
  simp
theorem dputX_rep {k : D} {κ : Key} (hk : keyOf k = some κ) {dv : D} {v : V} (rv : Rep C ρ H dv v) : ∀ {kvs : List (Key × V)} {ks xs : List D}, ks.map keyOf = kvs.map (fun p => some p.1) → Reps C ρ H xs (kvs.map (·.2)) →
    Reps C ρ H (dputX ks xs k dv) ((kvs.map fun kv => if kv.1 = κ then (kv.1, v) else kv).map (·.2))
  | [], ks, xs, h1, h2 => by
    have e1 : ks = [] := by simpa using h1
    subst e1
    exact rfl
  | p :: kvs, ks, xs, h1, h2 => by
    cases ks with
    | nil => simp at h1
    | cons q ks =>
      cases xs with
      | nil => simp [Reps] at h2
      | cons x xs =>
        obtain ⟨v', r, e, g1, g2⟩ := h2
        simp only [List.map_cons, List.cons.injEq] at e h1
        obtain ⟨e1, e2⟩ := e
        subst e1 e2
        have ih := dputX_rep hk rv (kvs := kvs) (ks := ks) (xs := xs) h1.2 g2
        unfold dputX
        rw [h1.1, hk]
        by_cases c : p.1 = κ
        · rw [if_pos (by rw [c])]
          exact ⟨v, _, by simp only [List.map_cons, if_pos c], rv, ih⟩
        · rw [if_neg (by simpa using c)]
          exact ⟨p.2, _, by simp only [List.map_cons, if_neg c], g1, ih⟩
/-- the parts of a dict behind d[k] = v -/
def RepD (C : Cfg) (ρ : Zn) (H : Hp) (d : D) (kvs : List (Key × V)) : Prop := ∃ ks xs, d = .dic ks xs ∧ ks.map keyOf = kvs.map (fun p => some p.1) ∧ Reps C ρ H xs (kvs.map (·.2))
theorem dput_rep {k : D} {κ : Key} (hk : keyOf k = some κ) {dv : D} {v : V} (rv : Rep C ρ H dv v) {kvs : List (Key × V)} {ks xs : List D} (h1 : ks.map keyOf = kvs.map (fun p => some p.1)) (h2 : Reps C ρ H xs (kvs.map (·.2))) : RepD C ρ H (dput ks xs k dv) (putK kvs κ v) := by
  unfold dput putK
  rw [dhas_rep hk h1]
  by_cases c : (kvs.any fun kv => decide (kv.1 = κ)) = true
  · rw [if_pos c, if_pos c]
    refine ⟨ks, _, rfl, ?_, dputX_rep hk rv h1 h2⟩
    rw [h1, List.map_map]
    apply List.map_congr_left
    intro p _
    simp only [Function.comp]
    split <;> rfl
  · rw [if_neg c, if_neg c]
    refine ⟨ks ++ [k], xs ++ [dv], rfl, ?_, ?_⟩
    · simp [h1, hk]
    · rw [List.map_append]
      exact Reps.append h2 (Reps.one rv)
theorem RepD.ext {ρ' : Zn} {H' : Hp} {d : D} {kvs : List (Key × V)} (x : Ext ρ ρ' H H') (h : RepD C ρ H d kvs) : RepD C ρ' H' d kvs := by
  obtain ⟨ks, xs, e, h1, h2⟩ := h
  exact ⟨ks, xs, e, h1, Reps.ext x xs h2⟩
end
section
variable {C : Cfg} {W : WX} {σ : L2.St} {ρ : Zn} {H : Hp} {ro w : List D} {Q : VK}
theorem ok_newD (hS : RepS C ρ H (ro ++ w)) (h : AfterR C (Rep C) W σ ρ H ro (.ok (.ref (ro ++ w).length) (w ++ [.dic [] []])) Q) : ∀ p, H p = none → Q (.ref p) (upd H p (.dK [])) := fun p hp =>
  h _ _ _ (ext_mut hS hp) (by rw [← List.append_assoc]; exact reps_mut hS hp ⟨[], upd_same, rfl, rfl⟩)
    ⟨p, by show (ρ.r ++ [p])[_]? = _; rw [← hS.len, List.getElem?_append_right (Nat.le_refl _), Nat.sub_self]; rfl, rfl⟩
end
def gDGet (o k : D) : M D := match o with
  | .dic ks xs => match dget ks xs k with
    | some d => if (keyOf k).isSome = true then M.pure d else M.no
    | none => M.no
  | _ => M.no
def gDGetD (o k z : D) : M D := match o with
  | .dic ks xs => if (keyOf k).isSome = true then M.pure ((dget ks xs k).getD z) else M.no
  | _ => M.no
def gDIn (o k : D) : M D := match o with
  | .dic ks _ => if (keyOf k).isSome = true then M.pure (.bl (dhas ks k)) else M.no
  | _ => M.no
def gDNotIn (o k : D) : M D := match o with
  | .dic ks _ => if (keyOf k).isSome = true then M.pure (.bl (!dhas ks k)) else M.no
  | _ => M.no
def isDic : D → Bool
  | .dic _ _ => true
  | _ => false
/-- d[k] = v -/
def gDPut (v o k : D) : M D := match o with
  | .ref n => fun ro w => if n < ro.length then .no else match w[n - ro.length]? with
    | some (.dic ks xs) => if (keyOf k).isSome = true ∧ ks.length < sizeLine then .ok .non (w.set (n - ro.length) (dput ks xs k v)) else .no
    | _ => .no
  | _ => M.no
def cDNew : EF := fun _ => mNew (.dic [] [])
def cDGet (fo fk : EF) : EF := fun env => M.bind (fo env) fun o => M.bind (fk env) fun k => M.bind (M.see o) fun o => gDGet o k
def cDGetD (fo fk fz : EF) : EF := fun env => M.bind (fo env) fun o => M.bind (M.see o) fun o' => if isDic o' = true then M.bind (fk env) fun k => M.bind (fz env) fun z => M.bind (M.see o) fun o => gDGetD o k z else M.no
def cDIn (g : D → D → M D) (fk fo : EF) : EF := fun env => M.bind (fk env) fun k => M.bind (fo env) fun o => M.bind (M.see o) fun o => g o k
def sDPutF (fo fk fv : EF) : SF := sLift fv fun v => sLift fo fun o => sLift fk fun k => sLift (fun _ => gDPut v o k) fun _ env _ w => .go .nx env w
section
variable {X : Cx} {W : WX} {fo fk fz fv : EF} {o i e f value : Expr} {p pos pos' apos : Pos}
theorem pf_dnew : PE X (.Dict [] [] pos) (tE (cfg X) W cDNew) := pe_imp pe_dnewK fun σ H Q ⟨ρ, env, ro, w, hS, hE, q⟩ => ok_newD hS q
theorem keySome {k : D} (h : (keyOf k).isSome = true) : ∃ κ, keyOf k = some κ := Option.isSome_iff_exists.mp h
theorem pf_dget (hu : X.A.units + 1 < cLine) (ho : PE X o (tE (cfg X) W fo)) (hi : PE X i (tE (cfg X) W fk)) (hs : NoSl i) : PE X (.Subscript o i pos) (tE (cfg X) W (cDGet fo fk)) :=
  pe_imp (pe_dget hu ho hi hs) fun σ H Q ⟨ρ, env, ro, w, hS, hE, q⟩ => by
    refine tR_seq hS hE q fun d w1 v ρ1 H1 x1 s1 r1 q1 => ?_
    refine tR_seq s1 (hE.ext x1) q1 fun k w2 y ρ2 H2 x2 s2 r2 q2 => ?_
    have r1' := seen_of s2 (Rep.ext x2 d r1)
    have q3 : AfterR (cfg X) (Rep (cfg X)) W σ ρ2 H2 ro (gDGet (see ro w2 d) k ro w2) Q := q2
    generalize see ro w2 d = d' at r1' q3
    cases d' with
    | dic ks xs =>
      obtain ⟨a, kvs, rfl, hd, h1, h2⟩ := r1'.dic
      unfold gDGet at q3
      cases e1 : dget ks xs k with
      | none => simp only [e1] at q3; exact (show False from q3).elim
      | some z =>
        simp only [e1] at q3
        by_cases c : (keyOf k).isSome = true
        · rw [if_pos c] at q3
          obtain ⟨κ, hk⟩ := keySome c
          obtain ⟨v, g1, g2⟩ := (dget_rep hk h1 h2).1 z e1
          exact ⟨a, v, rfl, .inl ⟨kvs, κ, hd, key_rep hk r2, g1.symm⟩, ok_same s2 g2 q3⟩
        · rw [if_neg c] at q3
          exact (show False from q3).elim
    | _ => exact (show False from q3).elim
theorem valV_some {kvs : List (Key × V)} {κ : Key} : (valV kvs κ).isSome = kvs.any fun kv => decide (kv.1 = κ) := (valV_any (kvs := kvs) (k := κ)).symm
def gTIn (b : Bool) (o k : D) : M Bool := match o with
  | .dic ks _ => if (keyOf k).isSome = true then M.pure (if b = true then !dhas ks k else dhas ks k) else M.no
  | _ => M.no
def cTIn (b : Bool) (fk fo : EF) : Fx.Env → M Bool := fun env => M.bind (fk env) fun k => M.bind (fo env) fun o => M.bind (M.see o) fun o => gTIn b o k
theorem tT_din (b : Bool) {σ : L2.St} {H : Hp} {Q : Bool → Hp → Prop} (q : tT (cfg X) W (cTIn b fk fo) σ H Q) : tE (cfg X) W fk σ H fun y H1 => tE (cfg X) W fo σ H1 fun x H2 => ∃ a o, x = .ref a ∧ DGet H2 a y o ∧ ∃ c, V.bl (if b = true then !o.isSome else o.isSome) = .bl c ∧ Q c H2 := by
  obtain ⟨ρ, env, ro, w, hS, hE, q⟩ := q
  refine tR_seq hS hE q fun k w1 y ρ1 H1 x1 s1 r1 q1 => ?_
  refine tR_seq s1 (hE.ext x1) q1 fun d w2 v ρ2 H2 x2 s2 r2 q2 => ?_
  have hd := seen_of s2 r2
  have hk := Rep.ext x2 k r1
  have q3 : AfterR (cfg X) RB W σ ρ2 H2 ro (gTIn b (see ro w2 d) k ro w2) Q := q2
  generalize see ro w2 d = d' at hd q3
  cases d' with
  | dic ks xs =>
    obtain ⟨a, kvs, rfl, hd, h1, h2⟩ := hd.dic
    unfold gTIn at q3
    by_cases c : (keyOf k).isSome = true
    · simp only [if_pos c] at q3
      obtain ⟨κ, e⟩ := keySome c
      rw [dhas_rep e h1, ← valV_some] at q3
      exact ⟨a, _, rfl, .inl ⟨kvs, κ, hd, key_rep e hk, rfl⟩, _, rfl, q3 _ ρ2 H2 .refl s2 rfl⟩
    · simp only [if_neg c] at q3
      exact (show False from q3).elim
  | _ => exact (show False from q3).elim
theorem pt_dnotIn (hu : X.A.units + 1 < cLine) (hi : PE X i (tE (cfg X) W fk)) (ho : PE X o (tE (cfg X) W fo)) (hm : behindInMarks .NotIn o = false := by rfl) : PT X (.Compare i [.NotIn] [o] pos) (tT (cfg X) W (cTIn true fk fo)) :=
  pt_imp (pt_cmp (pc_dnotin hu hi ho) hm) fun σ H Q q => tT_din true q
theorem f_dput (hu : X.A.units + 1 < cLine) (hv : PE X value (tE (cfg X) W fv)) (ho : PE X o (tE (cfg X) W fo)) (hi : PE X i (tE (cfg X) W fk)) (hs : swapsWith value (some (.Subscript o i pos')) pos.line X.env = pure false := by rfl) :
    PS X (.Assign [.Subscript o i pos'] value pos) (tS (cfg X) W (sDPutF fo fk fv)) := ps_imp (ps_dput hu ho hi hv hs) fun D σ H ⟨ρ, env, ro, w, hS, hE, q⟩ => by
  refine tS_seq hS hE q fun dv w1 v ρ1 H1 x1 s1 e1 r1 q1 => ?_
  refine tS_seq s1 e1 q1 fun do' w2 vo ρ2 H2 x2 s2 e2 r2 q2 => ?_
  refine tS_seq s2 e2 q2 fun di w3 vi ρ3 H3 x3 s3 e3 r3 q3 => ?_
  have rv := Rep.ext x3 dv (Rep.ext x2 dv r1)
  have ro' := Rep.ext x3 do' r2
  have q4 : AfterR (cfg X) (Rep (cfg X)) W σ ρ3 H3 ro (gDPut dv do' di ro w3) (fun _ H4 => D.nx σ H4) :=
      lift_after (f := fun _ => gDPut dv do' di) e3 q3 fun z w4 v4 ρ4 H4 x4 s4 e4 r4 q4 => q4 σ ρ4 H4 .refl s4 e4
  cases do' with
  | ref n =>
    obtain ⟨a, ha, rfl⟩ := ro'
    by_cases hn : n < ro.length
    · unfold gDPut at q4
      simp only [if_pos hn] at q4
      exact (show False from q4).elim
    · unfold gDPut at q4
      simp only [if_neg hn] at q4
      cases e5 : w3[n - ro.length]? with
      | none => rw [e5] at q4; exact (show False from q4).elim
      | some u =>
        rw [e5] at q4
        cases u with
        | dic ks xs =>
          simp only at q4
          by_cases c : (keyOf di).isSome = true ∧ ks.length < sizeLine
          · rw [if_pos c] at q4
            obtain ⟨κ, hk⟩ := keySome c.1
            have hw : (ro ++ w3)[n]? = some (.dic ks xs) := by
              rw [List.getElem?_append_right (by omega)]
              exact e5
            obtain ⟨kvs, g1, g2, g3⟩ := s3.obj n a _ ha hw
            have hl : kvs.length < sizeLine := by
              have := congrArg List.length g2
              simp only [List.length_map] at this
              omega
            refine ⟨a, _, rfl, .inl ⟨kvs, κ, g1, key_rep hk r3, hl, rfl⟩, ?_⟩
            have z := ok_put (o := .dK (putK kvs κ v)) (v := .non) (Q := fun _ H4 => D.nx σ H4) s3 hn ha (d := dput ks xs di dv) (e := .non) (fun H' x h' => by
              obtain ⟨ks', xs', e, k1, k2⟩ := (dput_rep hk rv g2 g3).ext x
              rw [e]
              exact ⟨_, h', k1, k2⟩) rfl q4
            exact z
          · rw [if_neg c] at q4
            exact (show False from q4).elim
        | _ => exact (show False from q4).elim
  | _ => exact (show False from q4).elim
end
theorem hu1 {k : Nat} {A : Around} (r : Room k A) : A.units + 1 < cLine := by
  have := hu65 r
  omega
section
variable {fo fk fz fv : EF} {env : Fx.Env} {ro w : List D}
@[simp] theorem x_dnew : cDNew env ro w = .ok (.ref (ro.length + w.length)) (w ++ [.dic [] []]) := by
  show mNew _ ro w = _
  simp
@[simp] theorem x_dget : cDGet fo fk env ro w = (fo env ro w).an fun o w1 => (fk env ro w1).an fun k w2 => gDGet (see ro w2 o) k ro w2 := by
  show M.bind (fo env) _ ro w = _
  simp
@[simp] theorem x_dgetD : cDGetD fo fk fz env ro w = (fo env ro w).an fun o w1 => if isDic (see ro w1 o) = true then (fk env ro w1).an fun k w2 => (fz env ro w2).an fun z w3 => gDGetD (see ro w3 o) k z ro w3 else .no := by
  show M.bind (fo env) _ ro w = _
  simp only [x_bind, x_see, an_ok]
  congr
  funext o w1
  by_cases c : isDic (see ro w1 o) = true
  · simp only [if_pos c, x_bind, x_see, an_ok]
  · simp only [if_neg c, x_no]
@[simp] theorem x_din {g : D → D → M D} : cDIn g fk fo env ro w = (fk env ro w).an fun k w1 => (fo env ro w1).an fun o w2 => g (see ro w2 o) k ro w2 := by
  show M.bind (fk env) _ ro w = _
  simp
@[simp] theorem x_tin {b : Bool} : cTIn b fk fo env ro w = (fk env ro w).an fun k w1 => (fo env ro w1).an fun o w2 => gTIn b (see ro w2 o) k ro w2 := by
  show M.bind (fk env) _ ro w = _
  simp
@[simp] theorem isDic_dic {ks xs : List D} : isDic (.dic ks xs) = true := rfl
@[simp] theorem keyOf_str {x : Str} : keyOf (.str x) = some (.inr x) := rfl
@[simp] theorem keyOf_int {x : Int} : keyOf (.int x) = some (.inl x) := rfl
@[simp] theorem dgetD_eq {ks xs : List D} {k z : D} (h : (keyOf k).isSome = true) : gDGetD (.dic ks xs) k z ro w = .ok ((dget ks xs k).getD z) w := by
  unfold gDGetD
  simp [h]
@[simp] theorem dget_nil {k : D} : dget [] [] k = none := rfl
@[simp] theorem din_eq {ks xs : List D} {k : D} (h : (keyOf k).isSome = true) : gDIn (.dic ks xs) k ro w = .ok (.bl (dhas ks k)) w := by
  unfold gDIn
  simp [h]
@[simp] theorem dnotIn_eq {ks xs : List D} {k : D} (h : (keyOf k).isSome = true) : gDNotIn (.dic ks xs) k ro w = .ok (.bl (!dhas ks k)) w := by
  unfold gDNotIn
  simp [h]
theorem dget_eq {ks xs : List D} {k d : D} (h : (keyOf k).isSome = true) (e : dget ks xs k = some d) : gDGet (.dic ks xs) k ro w = .ok d w := by
  unfold gDGet
  simp [h, e]
@[simp] theorem x_dput : sDPutF fo fk fv env ro w = (fv env ro w).st env fun v w1 => (fo env ro w1).st env fun o w2 => (fk env ro w2).st env fun k w3 => (gDPut v o k ro w3).st env fun _ w4 => .go .nx env w4 := by
  refine x_lift.trans (congrArg _ ?_)
  funext v w1
  refine x_lift.trans (congrArg _ ?_)
  funext o w2
  refine x_lift.trans (congrArg _ ?_)
  funext i w3
  exact x_lift
end
end Fx
/-! A list times a number. -/
namespace Fx
open PySem PySem.Spec L2
section
variable {X : Cx}
end
/-- number times number, list times number -/
def gMulF (x y : D) : M D := match x, y with
  | .lst ds, .int k => fun _ w => if k.natAbs < 2 ^ 62 ∧ ds.length * k.toNat ≤ sizeLine then .ok (.lst (List.replicate k.toNat ds).flatten) w else .no
  | x, y => gMul x y
theorem Reps.rep {C : Cfg} {ρ : Zn} {H : Hp} {ds : List D} {vs : List V} (r : Reps C ρ H ds vs) : ∀ n : Nat, Reps C ρ H (List.replicate n ds).flatten (List.replicate n vs).flatten
  | 0 => rfl
  | n + 1 => by
    rw [List.replicate_succ, List.replicate_succ, List.flatten_cons, List.flatten_cons]
    exact Reps.append r (Reps.rep r n)
section
variable {ro w : List D}
@[simp] theorem mulF_int {i j : Int} : gMulF (.int i) (.int j) ro w = gMul (.int i) (.int j) ro w := rfl
@[simp] theorem mulF_lst {ds : List D} {k : Int} : gMulF (.lst ds) (.int k) ro w = if k.natAbs < 2 ^ 62 ∧ ds.length * k.toNat ≤ sizeLine then .ok (.lst (List.replicate k.toNat ds).flatten) w else .no := rfl
end
theorem flats_iff {ds : List D} : D.flats ds = true ↔ ∀ d ∈ ds, d.flat = true := by
  induction ds with
  | nil => simp [D.flats]
  | cons d ds ih => simp [D.flats, ih]
end Fx
/-! Exceptions. -/
namespace Fx
open PySem PySem.Spec L2
/-- an own class over ValueError, without `__init__` -/
structure ExC (K : PySem.W.Frag) (mg : Str → Option Value) (x : Str) : Prop where
  ex : ∃ C, mg x = some (.ref C) ∧ PySem.W.excIn K C [.type "ValueError", .type "Exception", .type "BaseException", .type "object"] "ValueError.__new__" = true ∧ PySem.W.keepIn K (.ref C) = true ∧
    PySem.W.subIn K (.ref C) (.type "BaseException") = some true ∧ PySem.W.typeIn K (.ref C) = some (.type "type")
def sRaise (x : Str) : SF := fun env _ w => .exn x [] [] env w
section
variable {X : Cx} {W : WX} {x m : Str} {j : Nat} {p p2 cpos pos : Pos}
theorem f_raise (E : ExC X.K X.mg x) (hc : X.calm = true) (tk : Takes X W) (hg : Gl X x) (hdb : (x == ("__debug__" : Str)) = false := by decide) :
    PS X (.Raise (some (.Call (.Name x p) [.Constant (.str m) j p2] [] cpos)) none pos) (tS (cfg X) W (sRaise x)) := by
  obtain ⟨C, gC, xC, kC, bC, tC⟩ := E.ex
  refine ps_imp (ps_raise hc tk (pmk_own PySem.F.excBase_ValueError xC gC kC (raises_own bC tC) hg hdb)) fun D σ H ⟨ρ, env, ro, w, hS, hE, q⟩ => ?_
  exact q (.ref C) none σ ρ H .refl hS hE ⟨C, gC, rfl, .inl ⟨rfl, rfl, rfl⟩⟩
@[simp] theorem x_raise {env : Fx.Env} {ro w : List D} : sRaise x env ro w = .exn x [] [] env w := rfl
end
end Fx
set_option maxHeartbeats 2000000
/-! try, except .. as n, else. -/
namespace Fx
open PySem PySem.Spec L2 PyProof.Rows
section
variable {X : Cx} {x n : Str} {c : Value} {i : Nat} {body suite orelse : List Stmt} {b₀ : Stmt} {np pos pos' : Pos} {tb : WX → TS} {ts : Addr → Value → Option Addr → TS} {u : TS} {Wout : WX}
/-- where the exception stands, once it has been looked at -/
theorem not_frame {B h : Heap} {L : List PySem.Env} {o : Obj} {vs : Array Value} {a : Addr} (ff : h.FunFrames B L) (e : h.get? a = some o) (d : o.data = .fields vs) : a ∉ frs L := fun hm => by
  obtain ⟨_, o', e', k⟩ := ff.mem hm
  cases e.symm.trans e'
  exact k _ d
theorem ps_try_asE (ho : PSs X orelse u) (hs : X.stack = X.env :: X.outer) (hf : X.env.frame = some X.env.locals) (hN : X.N.Nodup) (hi : X.N[i]? = some n) (hln : X.env.kindOf n = some .local) (hc : Names X x c) (tk : Takes X Wout)
    (hb : ∀ (W : WX) (pn : List (Addr × Obj)) (xe : Value → Shared → Prop), Takes (X.tr pn xe) W → PassesOwn (model X.prog X.w) X.A X.env xe → PSs (X.tr pn xe) body (tb W))
    (hsu : ∀ (a : Addr) (oe : Obj) (cls : Value) (d : Option Addr) (pn : List (Addr × Obj)), Zc cls d oe → (∃ vs, oe.data = .fields vs) → PSs (X.suite a ((a, oe) :: pn)) (b₀ :: suite) (ts a cls d)) :
    PS X (.Try body [.ExceptHandler (some (.Name x np)) (some n) (b₀ :: suite) pos'] orelse [] pos) (fun D σ H => tb (wAs X.K c i ts Wout D) { D with nx := u D } σ H) := by
  refine ⟨fun pins s σ H D I h => ?_⟩
  let xe' : Value → Shared → Prop := fun e s₁ => wpAny (model X.prog X.w) X.A (noteFrame e X.env) (fun _ s₂ => wpAny (model X.prog X.w) X.A (setFlight e none) (fun _ s₃ =>
    wpAny (model X.prog X.w) X.A (handleBy e X.env [.ExceptHandler (some (.Name x np)) (some n) (b₀ :: suite) pos']) (SP X pins D) X.xe s₃) X.xe s₂) X.xe s₁
  -- what an exception of the body meets
  have tk' : Takes (X.tr (X.pn ++ pins) xe') (wAs X.K c i ts Wout D) := by
    rintro v s' ⟨a, B, sI, pins', σ', H', cls, d, ev, J', nb, up, sky, na, os, ag, b, e1, yes, no⟩
    subst ev
    have J : L2.Inv X pins σ' H' sI := J'.ofTry I.ok
    have sky2 : Sky B (X.env :: X.outer) a (Zc cls d) X.env.locals s'.heap := by
      rw [← hs]
      exact sky
    refine Sky.land Zc.steady (by rw [I.ok.frames, hs]) hf sky2 fun h3 fl up3 => ?_
    obtain ⟨o3, vs3, g3, z3, d3⟩ := fl.there
    have nfr := not_frame fl.2.2.1 g3 d3
    have nL : a ≠ X.env.locals := fun z => nfr (List.mem_filterMap.mpr ⟨X.env, List.mem_cons_self, (by rw [hf, z])⟩)
    have nF : a ∉ X.fs := fun hm => by
      obtain ⟨e, he, q⟩ := List.mem_filterMap.mp hm
      exact nfr (List.mem_filterMap.mpr ⟨e, List.mem_cons_of_mem _ he, q⟩)
    have J3 : L2.Inv X pins σ' H' { s' with heap := h3 } := J.landed nb fl.1 (up.trans up3) os ag
    have I3 := J3.suite g3 d3 na nL nF
    have cls_is : PySem.W.Looks (model X.prog X.w) h3 (typeOf (.ref a)) cls := fun A Q E s k q => wpAny_typeOf_ref (k _ _ g3) (by rw [z3.1]; exact q)
    have named : ∀ {Q : Value → Shared → Prop} {E : Value → Shared → Prop}, Q c { s' with heap := h3 } → wpAny (model X.prog X.w) (X.A.mark (some (.ref a))) (eval (.Name x np) X.env) Q E { s' with heap := h3 } := fun {Q E} q => by
      obtain ⟨hg, hd, hm | ⟨hm, hv, hn⟩⟩ := hc
      · exact ld_glob (X := X.suite a ((a, o3) :: (X.pn ++ pins))) I3 hg hm q hd
      · exact ld_blt (X := X.suite a ((a, o3) :: (X.pn ++ pins))) I3 hg hm hv q hn hd
    refine wpAny_handleBy_cons (codeAny_handlers_test (named ((PySem.W.exm_one (M := model X.prog X.w) J3.kIn cls_is e1).here ?_))) (by intro q; cases q)
    cases b with
    | false =>
      obtain ⟨_, _, _, oe, vs, T, oT, ts', he, hz, hd, h1, hr⟩ := id fl
      refine wpAny_handleBy_nil (wpAny_bind (wpAny_field he hd h1 ?_))
      rw [if_neg (show ¬ ((Value.ref T == Value.none) = true) from by simp)]
      rw [hf]
      refine wpAny_bind ?_
      refine HandSPX.setFlight_upZ (s := { s' with heap := h3 }) (Q := fun _ s4 => wpAny (model X.prog X.w) X.A (throw (.ref a) : Sem Flow) (SP X pins D) X.xe s4) fl fun h4 hh4 up4 => ?_
      refine wpAny_throw (tk _ _ ?_)
      refine ⟨a, B, sI, pins, σ', H', cls, d, rfl, J, nb, (up.trans up3).trans up4, .inr (.inr ?_), na, os, ag, no rfl⟩
      rw [hs]
      exact hh4
    | true =>
      refine codeAny_handlers_suite_as (HandSPX.lands_againZ fl fun h4 fl4 up4 => ?_)
      obtain ⟨o4, vs4, g4, z4, d4⟩ := fl4.there
      have J4 : L2.Inv X pins σ' H' { s' with heap := h4 } := J.landed nb fl4.1 ((up.trans up3).trans up4) os ag
      have I4 := J4.suite g4 d4 na nL nF
      refine store_ok (X := X.suite a ((a, o4) :: (X.pn ++ pins))) (v := .ref a) I4 hN hi (.inl hln) rfl (fun s5 I5 => ?_) (.inr hln)
      have away : ∀ {σ6 : L2.St} {H6 : Hp} {s6 : Shared} {Q : Shared → Prop}, L2.Inv (X.suite a ((a, o4) :: (X.pn ++ pins))) [] σ6 H6 s6 → (∀ s7, L2.Inv X pins (σ6.set i none) H6 s7 → Q s7) →
          wpAny (model X.prog X.w) X.A (do bindName X.env n .none; unbindBehindTheSuite X.env n pos') (fun _ s7 => Q s7) X.xe s6 := fun {σ6 H6 s6 Q} I6 hq => gone_ok (I6.unsuite I.ok) hN hi hln hq
      refine wpAny_mono ((hsu a o4 cls d (X.pn ++ pins) z4 ⟨_, d4⟩).run [] s5 _ H' _ I5 (yes rfl a na)) (fun fw s6 hsp => ?_) fun _ _ z => False.elim z
      cases fw with
      | ret y =>
        obtain ⟨v6, σ6, H6, I6, r6, q6⟩ := hsp
        exact away I6 fun s7 J7 => ⟨_, _, _, J7, r6, q6⟩
      | next =>
        obtain ⟨σ6, H6, I6, q6⟩ := hsp
        exact away I6 fun s7 J7 => ⟨_, _, J7, q6⟩
      | brk =>
        obtain ⟨σ6, H6, I6, q6⟩ := hsp
        exact away I6 fun s7 J7 => ⟨_, _, J7, q6⟩
      | cont =>
        obtain ⟨σ6, H6, I6, q6⟩ := hsp
        exact away I6 fun s7 J7 => ⟨_, _, J7, q6⟩
  refine wpAny_Try_except (wpAny_mono ((hb _ (X.pn ++ pins) xe' tk' PassesOwn.looking).run [] s σ H { D with nx := u D } (I.toTry _) h) (fun f s1 hsp => ?_) fun e s1 he => he)
  cases f with
  | next =>
    obtain ⟨σ', H', J, q⟩ := hsp
    exact ho.run pins s1 σ' H' D (J.ofTry I.ok) q
  | ret v =>
    obtain ⟨y, σ', H', J, r, q⟩ := hsp
    exact ⟨y, σ', H', J.ofTry I.ok, r, q⟩
  | brk =>
    obtain ⟨σ', H', J, q⟩ := hsp
    exact ⟨σ', H', J.ofTry I.ok, q⟩
  | cont =>
    obtain ⟨σ', H', J, q⟩ := hsp
    exact ⟨σ', H', J.ofTry I.ok, q⟩
end
end Fx
/-! Expressions of an except suite: what is known of the name's slot goes along. -/
namespace Fx
open PySem PySem.Spec L2
abbrev tEp (P : L2.St → Prop) (t : TE) : TE := fun σ H Q => P σ ∧ t σ H Q
section
variable {X : Cx} {P : L2.St → Prop} {W : WX} {C : Cfg} {a b e : Expr} {rest : List Expr} {pos : Pos} {ta tb : Fx.Env → M Bool} {fa fb : EF}
abbrev tSp (P : L2.St → Prop) (t : TS) : TS := fun D σ H => P σ ∧ t D σ H
theorem fsp_one {st : Stmt} {f : SF} (h : PS X st (tSp P (tS C W f))) : PSs X [st] (tSp P (tS C W f)) := pss_one h
theorem f_retp (h : PE X e (tEp P (tE C W fa))) : PS X (.Return (some e) pos) (tSp P (tS C W (sRet fa))) := ps_imp (ps_ret h) fun D σ H ⟨p, ρ, env, ro, w, hS, hE, q⟩ =>
  ⟨p, tS_seq hS hE q fun d w1 v ρ1 H1 x1 s1 e1 r1 q1 => q1 v ρ1 H1 .refl s1 r1⟩
theorem pss_ex {α : Type} {sts : List Stmt} {t : α → TS} (h : ∀ x, PSs X sts (t x)) : PSs X sts (fun D σ H => ∃ x, t x D σ H) := ⟨fun pins s σ H D I ⟨x, q⟩ => (h x).run pins s σ H D I q⟩
end
def cKT (b : Bool) : Fx.Env → M Bool := fun _ => M.pure b
@[simp] theorem x_kt {b : Bool} {env : Fx.Env} {ro w : List D} : cKT b env ro w = .ok b w := rfl
/-! ### try, except X as n, else -/
def sTryAE (i : Nat) (sub : Str → Option Bool) (body : SF) (suite : Str → SF) (orelse : SF) : SF := fun env ro w => match body env ro w with
  | .go .nx env1 w1 => orelse env1 ro w1
  | .exn c [] [] env1 w1 => (match sub c with
    | some true => if i < env1.length then (match suite c (env1.set i none) ro w1 with
      | .go fl env2 w2 => .go fl (env2.set i none) w2
      | _ => .no) else .no
    | some false => .exn c [] [] env1 w1
    | none => .no)
  | .exn _ _ _ _ _ => .no
  | o => o
/-- what a suite knows -/
def Pc (X : Cx) (i : Nat) (c : Str) (a : Addr) (cls : Value) (d : Option Addr) : L2.St → Prop := fun σ => σ[i]? = some (some (.ref a)) ∧ (∃ A, X.mg c = some (.ref A) ∧ cls = .ref A) ∧ d = none
theorem RepE.setN {C : Cfg} {ρ : Zn} {H : Hp} {env : Fx.Env} {σ : L2.St} (h : RepE C ρ H env σ) (i : Nat) (o : Option V) : RepE C ρ H (env.set i none) (σ.set i o) := ⟨by rw [List.length_set, List.length_set]; exact h.len, fun j d e => by
  by_cases c : j = i
  · subst c
    by_cases hl : j < env.length
    · rw [List.getElem?_set_self hl] at e
      cases e
    · rw [List.getElem?_eq_none (by rw [List.length_set]; omega)] at e
      cases e
  · rw [List.getElem?_set_ne (Ne.symm c)] at e ⊢
    exact h.at' j d e⟩
section
variable {X : Cx} {W : WX} {x n : Str} {c : Value} {i : Nat} {body suite orelse : List Stmt} {b₀ : Stmt} {np pos pos' : Pos} {fb fe : SF} {fs : Str → SF} {sub : Str → Option Bool}
theorem f_tryAE (i : Nat) (hsub : ∀ c' b, sub c' = some b → ∀ A, X.mg c' = some (.ref A) → PySem.W.exmOne X.K (.ref A) c = some b) (ho : PSs X orelse (tS (cfg X) W fe)) (hs : X.stack = X.env :: X.outer) (hf : X.env.frame = some X.env.locals) (hN : X.N.Nodup) (hi : X.N[i]? = some n) (hln : X.env.kindOf n = some .local) (hc : Names X x c) (tk : Takes X W)
    (hb : ∀ (W : WX) (pn : List (Addr × Obj)) (xe : Value → Shared → Prop), Takes (X.tr pn xe) W → PassesOwn (model X.prog X.w) X.A X.env xe → PSs (X.tr pn xe) body (tS (cfg X) W fb))
    (hsu : ∀ (c' : Str) (a : Addr) (oe : Obj) (cls : Value) (d : Option Addr) (pn : List (Addr × Obj)), Zc cls d oe → (∃ vs, oe.data = .fields vs) → PSs (X.suite a ((a, oe) :: pn)) (b₀ :: suite) (tSp (Pc X i c' a cls d) (tS (cfg X) W0 (fs c')))) :
    PS X (.Try body [.ExceptHandler (some (.Name x np)) (some n) (b₀ :: suite) pos'] orelse [] pos) (tS (cfg X) W (sTryAE i sub fb fs fe)) := by
  refine ps_imp (ps_try_asE (tb := fun W => tS (cfg X) W fb) (ts := fun a cls d D σ H => ∃ c', tSp (Pc X i c' a cls d) (tS (cfg X) W0 (fs c')) D σ H) ho hs hf hN hi hln hc tk hb fun a oe cls d pn hz hd => pss_ex fun c' => hsu c' a oe cls d pn hz hd) fun D σ H ⟨ρ, env, ro, w, hS, hE, q⟩ => ?_
  refine ⟨ρ, env, ro, w, hS, hE, ?_⟩
  have hl : i < X.N.length := (List.getElem?_eq_some_iff.mp hi).1
  unfold sTryAE at q
  cases e : fb env ro w with
  | no => rw [e] at q; exact q
  | go fl env1 w1 =>
    rw [e] at q
    cases fl with
    | nx => exact fun σ1 ρ1 H1 x1 s1 e1 => ⟨ρ1, env1, ro, w1, s1, e1, AfterS.ext x1 q⟩
    | rt d => exact q
    | bk => exact q
    | ct => exact q
  | exn c' ns xs env1 w1 =>
    rw [e] at q
    cases ns with
    | cons _ _ => exact (show False from q).elim
    | nil =>
      cases xs with
      | cons _ _ => exact (show False from q).elim
      | nil =>
        intro cls dx σ1 ρ1 H1 x1 s1 e1 hX
        obtain ⟨A, h1, h2, h3⟩ := hX
        have h4 : dx = none := by
          rcases h3 with ⟨_, _, h⟩ | ⟨_, _, _, h, _⟩
          · exact h
          · exact absurd rfl h
        simp only at q
        cases e2 : sub c' with
        | none => rw [e2] at q; exact (show False from q).elim
        | some b =>
          rw [e2] at q
          have hx := hsub c' b e2 A h1
          rw [← h2] at hx
          refine ⟨b, hx, fun hb' a na => ?_, fun hb' => ?_⟩
          · subst hb'
            simp only at q
            by_cases hl2 : i < env1.length
            · rw [if_pos hl2] at q
              have hiσ : i < σ1.length := by
                rw [← e1.len]
                exact hl2
              refine ⟨c', ⟨by rw [List.getElem?_set_self hiσ], ⟨A, h1, h2⟩, h4⟩, ρ1, env1.set i none, ro, w1, s1, e1.setN i _, ?_⟩
              cases e3 : fs c' (env1.set i none) ro w1 with
              | no => rw [e3] at q; exact (show False from q).elim
              | exn _ _ _ _ _ => rw [e3] at q; exact (show False from q).elim
              | go fl env2 w2 =>
                rw [e3] at q
                have q' := AfterS.ext x1 q
                cases fl with
                | nx => exact fun σ2 ρ2 H2 x2 s2 e2 => q' _ ρ2 H2 x2 s2 (e2.setN i none)
                | bk => exact fun σ2 ρ2 H2 x2 s2 e2 => q' _ ρ2 H2 x2 s2 (e2.setN i none)
                | ct => exact fun σ2 ρ2 H2 x2 s2 e2 => q' _ ρ2 H2 x2 s2 (e2.setN i none)
                | rt d => exact q'
            · rw [if_neg hl2] at q
              exact (show False from q).elim
          · subst hb'
            simp only at q
            exact q cls dx σ1 ρ1 H1 x1 s1 e1 ⟨A, h1, h2, h3⟩
end
/-! ### isinstance(e, C) in the suite -/
section
variable {X : Cx} {i : Nat} {c' cn en : Str} {a : Addr} {oe : Obj} {cls : Value} {d : Option Addr} {pn : List (Addr × Obj)} {W : WX} {C : Cfg} {p q1 q2 pos : Pos} {b : Bool} {C2 : Addr}
end
/-! ### a law's exceptions: cs may be raised, us are named in clauses and tests -/
structure ExT (K : PySem.W.Frag) (mg : Str → Option Value) (cs us : List Str) (sub : Str → Str → Bool) : Prop where
  ad : ∀ c ∈ cs, ExC K mg c ∧ ∀ A, mg c = some (.ref A) → ExcC K A
  na : ∀ c ∈ us, ∃ A, mg c = some (.ref A)
  pr : ∀ c ∈ cs, ∀ u ∈ us, ∀ A B, mg c = some (.ref A) → mg u = some (.ref B) → PySem.W.exmOne K (.ref A) (.ref B) = some (sub c u) ∧ PySem.W.kitOne K (.ref A) (.ref B) = some (sub c u)
def subO (cs : List Str) (sub : Str → Str → Bool) (u : Str) : Str → Option Bool := fun c => if c ∈ cs then some (sub c u) else none
section
variable {K : PySem.W.Frag} {mg : Str → Option Value} {cs us : List Str} {sub : Str → Str → Bool} {u : Str}
theorem ExT.sub' (T : ExT K mg cs us sub) (hu : u ∈ us) {B : Addr} (hB : mg u = some (.ref B)) : ∀ c' b, subO cs sub u c' = some b → ∀ A, mg c' = some (.ref A) → PySem.W.exmOne K (.ref A) (.ref B) = some b := by
  intro c' b h A hA
  unfold subO at h
  by_cases hc : c' ∈ cs
  · rw [if_pos hc] at h
    cases h
    exact (T.pr c' hc u hu A B hA hB).1
  · rw [if_neg hc] at h
    cases h
end
section
variable {X : Cx} {W : WX} {x n : Str} {i : Nat} {body suite orelse : List Stmt} {b₀ : Stmt} {np pos pos' : Pos} {fb fe : SF} {fs : Str → SF} {cs us : List Str} {sub : Str → Str → Bool}
/-- by the law's table -/
theorem f_tryT (i : Nat) (T : ExT X.K X.mg cs us sub) (hx : x ∈ us) (hg : Gl X x) (hdb : (x == ("__debug__" : Str)) = false) (ho : PSs X orelse (tS (cfg X) W fe)) (hs : X.stack = X.env :: X.outer) (hf : X.env.frame = some X.env.locals) (hN : X.N.Nodup) (hi : X.N[i]? = some n) (hln : X.env.kindOf n = some .local) (tk : Takes X W)
    (hb : ∀ (W : WX) (pn : List (Addr × Obj)) (xe : Value → Shared → Prop), Takes (X.tr pn xe) W → PassesOwn (model X.prog X.w) X.A X.env xe → PSs (X.tr pn xe) body (tS (cfg X) W fb))
    (hsu : ∀ (c' : Str) (a : Addr) (oe : Obj) (cls : Value) (d : Option Addr) (pn : List (Addr × Obj)), c' ∈ cs → Zc cls d oe → (∃ vs, oe.data = .fields vs) → PSs (X.suite a ((a, oe) :: pn)) (b₀ :: suite) (tSp (Pc X i c' a cls d) (tS (cfg X) W0 (fs c')))) :
    PS X (.Try body [.ExceptHandler (some (.Name x np)) (some n) (b₀ :: suite) pos'] orelse [] pos) (tS (cfg X) W (sTryAE i (subO cs sub x) fb (fun c => if c ∈ cs then fs c else fun _ _ _ => .no) fe)) := by
  obtain ⟨B, hB⟩ := T.na x hx
  refine f_tryAE i (T.sub' hx hB) ho hs hf hN hi hln ⟨hg, hdb, .inl hB⟩ tk hb fun c' a oe cls d pn hz hd => ?_
  by_cases hc : c' ∈ cs
  · rw [if_pos hc]
    exact hsu c' a oe cls d pn hc hz hd
  · rw [if_neg hc]
    exact pss_imp (t := fun _ _ _ => False) ⟨fun _ _ _ _ _ _ h => h.elim⟩ fun D σ H ⟨_, _, _, _, _, _, _, q⟩ => q
end
theorem exm_both {K : PySem.W.Frag} {A C : Addr} {b b' : Bool} (h1 : PySem.W.subIn K (.ref C) (.type "BaseException") = some true) (hd : PySem.W.hasDictIn K C = true) (ht : PySem.W.typeIn K (.ref C) = some (.type "type")) (h4 : PySem.W.subIn K (.ref A) (.ref C) = some b) (he : (Value.ref A == Value.ref C) = b') (hb : b' = true → b = true) : PySem.W.exmOne K (.ref A) (.ref C) = some b ∧ PySem.W.kitOne K (.ref A) (.ref C) = some b := by
  have e := PySem.W.exm_ref h1 hd ht h4
  refine ⟨e, ?_⟩
  unfold PySem.W.kitOne
  rw [he]
  cases b' with
  | true => rw [if_pos rfl, hb rfl]
  | false =>
    rw [if_neg (by decide)]
    unfold PySem.W.exmOne at e
    rw [h1] at e
    exact e
end Fx
/-! dict == dict; for k in d. -/
namespace Fx
open PySem PySem.Spec L2
/-- the values of two dicts compared, key by key -/
inductive HitsV (K : PySem.W.Frag) (H : Hp) (lvs : List (Key × V)) : List (Key × V) → Bool → Prop
  | nil : HitsV K H lvs [] true
  | miss {k : Key} {v : V} {r : List (Key × V)} : valV lvs k = none → HitsV K H lvs ((k, v) :: r) false
  | hit {k : Key} {v y : V} {d e : PyData} {r : List (Key × V)} {b : Bool} : valV lvs k = some y → Dp K H v d → Dp K H y e → SeqAt.shaped d = true → SeqAt.shaped e = true → HitsV K H lvs r b → HitsV K H lvs ((k, v) :: r) (PyData.eqv d e && b)
section
variable {X : Cx} {pins : List (Addr × Obj)} {σ : L2.St} {H : Hp} {s : Shared}
end
section
variable {C : Cfg} {ρ : Zn} {H : Hp}
theorem map_len {α β : Type} {ks : List D} {f : D → α} {kvs : List β} {g : β → α} (h : ks.map f = kvs.map g) : ks.length = kvs.length := by
  have := congrArg List.length h
  simpa using this
end
section
variable {ro w : List D}
end

/-! ### a heap in which a dict is locked -/
structure Rde (H H' : Hp) : Prop where
  rd : ∀ a u, (∀ o u', u ≠ .frz o u') → Rd H a u → Rd H' a u
  ins : ∀ a A dx fs, H a = some (.ins A dx fs) → H' a = some (.ins A dx fs)
  there : ∀ a o, H a = some o → ∃ o', H' a = some o'
section
variable {C : Cfg} {ρ : Zn} {H H' : Hp}
theorem Rde.still {a : Addr} {u : HO} (x : Rde H H') (hu : ∀ o u', u ≠ .frz o u') (h : Still ρ H a u) : Still ρ H' a u := ⟨h.1, x.rd a u hu h.2⟩
mutual
theorem Rep.rde (x : Rde H H') : ∀ (d : D) {v : V}, Rep C ρ H d v → Rep C ρ H' d v
  | .non, v, h => h
  | .bl b, v, h => h
  | .int i, v, h => h
  | .str i, v, h => h
  | .fn i, v, h => h
  | .rng n, v, ⟨a, e, h⟩ => ⟨a, e, x.still (fun _ _ z => by unfold RngO at z; cases z) h⟩
  | .ref n, v, h => h
  | .tup ds, v, ⟨a, vs, e, h, r⟩ => ⟨a, vs, e, h.imp (x.still fun _ _ z => nomatch z) id, Reps.rde x ds r⟩
  | .lst ds, v, ⟨a, vs, e, h, r⟩ => ⟨a, vs, e, h.imp (x.still fun _ _ z => nomatch z) id, Reps.rde x ds r⟩
  | .dic ks ds, v, ⟨a, kvs, e, h, k, r⟩ => ⟨a, kvs, e, x.still (fun _ _ z => nomatch z) h, k, Reps.rde x ds r⟩
  | .dct ks ds, v, ⟨a, es, ep, as, vs, e, h, en, nd, rk, r⟩ => ⟨a, es, ep, as, vs, e, x.still (fun _ _ z => by unfold DNo at z; cases z) h, en, nd, Reps.rde x ks rk, Reps.rde x ds r⟩
  | .ins c ns ds, v, ⟨a, A, dx, fs, e, m, n, h, k, r⟩ => ⟨a, A, dx, fs, e, m, n, x.ins _ _ _ _ h, k, Reps.rde x ds r⟩
theorem Reps.rde (x : Rde H H') : ∀ (ds : List D) {vs : List V}, Reps C ρ H ds vs → Reps C ρ H' ds vs
  | [], vs, h => h
  | d :: ds, vs, ⟨v, r, e, h1, h2⟩ => ⟨v, r, e, Rep.rde x d h1, Reps.rde x ds h2⟩
end
theorem RepE.rde {env : Env} {σ : L2.St} (x : Rde H H') (h : RepE C ρ H env σ) : RepE C ρ H' env σ := ⟨h.len, fun i d e => by
  obtain ⟨v, h1, h2⟩ := h.at' i d e
  exact ⟨v, h1, Rep.rde x d h2⟩⟩
theorem RepS.rde {w : List D} (x : Rde H H') (e : ∀ a ∈ ρ.r, H' a = H a) (hS : RepS C ρ H w) : RepS C ρ H' w := by
  refine ⟨hS.len, hS.nd, fun i a d h1 h2 => ?_, fun a ha => ⟨(hS.hid a ha).1, by obtain ⟨o, z⟩ := (hS.hid a ha).2; exact x.there a o z⟩⟩
  have ea := e a (List.mem_of_getElem? h1)
  have q := hS.obj i a d h1 h2
  cases d with
  | lst ds => obtain ⟨vs, e, r⟩ := q; exact ⟨vs, ea.trans e, Reps.rde x ds r⟩
  | dic ks ds => obtain ⟨vs, e, k, r⟩ := q; exact ⟨vs, ea.trans e, k, Reps.rde x ds r⟩
  | dct ks ds => obtain ⟨es, ep, as, vs, e, en, nd, rk, r⟩ := q; exact ⟨es, ep, as, vs, ea.trans e, en, nd, Reps.rde x ks rk, Reps.rde x ds r⟩
  | ins c ns ds => obtain ⟨A, dx, fs, m, e, k, r⟩ := q; exact ⟨A, dx, fs, m, ea.trans e, k, Reps.rde x ds r⟩
  | _ => exact (show False from q).elim
theorem rde_lock {a : Addr} {od : Obj} {kvs : List (Key × V)} (e : H a = some (.dK kvs)) : Rde H (upd H a (.frz od (.dK kvs))) where
  rd := fun b u hu h => by
    by_cases c : b = a
    · subst c
      rcases h with h | ⟨o, h⟩
      · rw [e] at h
        cases h
        exact .inr ⟨od, upd_same⟩
      · rw [e] at h
        cases h
    · rcases h with h | ⟨o, h⟩
      · exact .inl (by rw [upd_ne c]; exact h)
      · exact .inr ⟨o, by rw [upd_ne c]; exact h⟩
  ins := fun b A dx fs h => by rw [upd_ne (fun z => by rw [z, e] at h; cases h)]; exact h
  there := fun b o h => by
    by_cases c : b = a
    · subst c
      exact ⟨_, upd_same⟩
    · exact ⟨o, by rw [upd_ne c]; exact h⟩
theorem rde_unlock {a : Addr} {od : Obj} {kvs : List (Key × V)} (e : H a = some (.frz od (.dK kvs))) : Rde H (upd H a (.dK kvs)) where
  rd := fun b u hu h => by
    by_cases c : b = a
    · subst c
      rcases h with h | ⟨o, h⟩
      · rw [e] at h
        cases h
        exact absurd rfl (hu _ _)
      · rw [e] at h
        cases h
        exact .inl upd_same
    · rcases h with h | ⟨o, h⟩
      · exact .inl (by rw [upd_ne c]; exact h)
      · exact .inr ⟨o, by rw [upd_ne c]; exact h⟩
  ins := fun b A dx fs h => by rw [upd_ne (fun z => by rw [z, e] at h; cases h)]; exact h
  there := fun b o h => by
    by_cases c : b = a
    · subst c
      exact ⟨_, upd_same⟩
    · exact ⟨o, by rw [upd_ne c]; exact h⟩
/-- what has been done while a dict was locked -/
theorem ext_locked {ρ' : Zn} {a : Addr} {od : Obj} {kvs : List (Key × V)} (e : H a = some (.dK kvs)) (o : ρ.Out a) (x : Ext ρ ρ' (upd H a (.frz od (.dK kvs))) H') : H' a = some (.frz od (.dK kvs)) ∧ ρ'.Out a ∧ Ext ρ ρ' H (upd H' a (.dK kvs)) := by
  have k := x.keep a _ upd_same o
  refine ⟨k.1, k.2, x.pre, x.hid, fun b u h n => ?_, fun b hb => ?_⟩
  · by_cases c : b = a
    · subst c
      rw [e] at h
      cases h
      exact ⟨upd_same, k.2⟩
    · have z := x.keep b u (by rw [upd_ne c]; exact h) n
      exact ⟨by rw [upd_ne c]; exact z.1, z.2⟩
  · have c : b ≠ a := fun z => o.2 (z ▸ hb)
    rw [upd_ne c, x.same b hb, upd_ne c]
theorem reps_unlock {w : List D} {a : Addr} {od : Obj} {kvs : List (Key × V)} (e : H a = some (.frz od (.dK kvs))) (o : ρ.Out a) (hS : RepS C ρ H w) : RepS C ρ (upd H a (.dK kvs)) w :=
  hS.rde (rde_unlock e) fun b hb => upd_ne fun z => o.1 (z ▸ hb)
theorem reps_lock {w : List D} {a : Addr} {od : Obj} {kvs : List (Key × V)} (e : H a = some (.dK kvs)) (o : ρ.Out a) (hS : RepS C ρ H w) : RepS C ρ (upd H a (.frz od (.dK kvs))) w :=
  hS.rde (rde_lock e) fun b hb => upd_ne fun z => o.1 (z ▸ hb)
end

/-! ### the keys -/
def cKeys (i : Nat) : Env → M (List D) := fun env _ w => match env[i]? with
  | some (some (.dic ks _)) => .ok ks w
  | _ => .no
def Frz (i : Nat) (σ : L2.St) (H : Hp) : Prop := ∃ a o kvs, σ[i]? = some (some (.ref a)) ∧ H a = some (.frz o (.dK kvs))
theorem rep_key {C : Cfg} {ρ : Zn} {H : Hp} {k : D} {κ : Key} (h : keyOf k = some κ) : Rep C ρ H k (kV κ) := by
  cases k with
  | int i => cases h; rfl
  | str i => cases h; rfl
  | _ => cases h
theorem walks_keys {C : Cfg} {ρ : Zn} {H : Hp} {ks : List D} {a : Addr} {o : Obj} {kvs : List (Key × V)} (n : ρ.Out a) (e : H a = some (.frz o (.dK kvs))) (h : ks.map keyOf = kvs.map (fun p => some p.1)) : Walks C ρ H ks (Itk a o kvs) := by
  intro i ρ' H' u x s
  have h' := (x.keep _ _ e n).1
  have hl := map_len h
  refine ⟨fun d e => ⟨⟨h', by rw [← hl]; exact (List.getElem?_eq_some_iff.mp e).1⟩, fun z H2 ⟨e2, k, v, g1, g2⟩ => ?_⟩, fun e => ⟨h', by rw [← hl]; exact List.getElem?_eq_none_iff.mp e⟩⟩
  subst e2
  have q := congrArg (·[i]?) h
  simp only [List.getElem?_map, e, g1, Option.map_some, Option.some.injEq] at q
  rw [g2]
  exact ⟨.refl, s, rep_key q⟩
section
variable {X : Cx} {W : WX} {pos p pos' : Pos} {elt tg iter : Expr} {ifs : List Expr} {scope : Scope} {own : List (Str × Nat)} {tt : Env → M Bool} {f : EF} {t : Tg} {x : Str} {σ : L2.St} {H : Hp} {ρ : Zn}
theorem pi_keysF (i : Nat) (hN : X.N[i]? = some x := by rfl) (hv : Vis X.env.scope x := by first | exact Or.inl rfl | exact Or.inr (Or.inl rfl) | exact Or.inr (Or.inr rfl)) (hd : (x == ("__debug__" : Str)) = false := by decide) (hcd : (x == ("__classdict__" : Str)) = false := by decide) :
    PI X tg (.Name x p) (fun σ H R => Frz i σ H ∧ tI (cfg X) W (cKeys i) σ H R) :=
  pi_imp (pi_keys (pe_var hN hv hd hcd)) fun σ H R ⟨⟨a, o, kvs, e1, e2⟩, ρ, env, ro, w, hS, hE, q⟩ => by
    cases ee : env[i]? with
    | none =>
      unfold cKeys at q
      simp only [ee] at q
      exact (show False from q).elim
    | some od =>
      cases od with
      | none =>
        unfold cKeys at q
        simp only [ee] at q
        exact (show False from q).elim
      | some d =>
        cases d with
        | dic ks xs =>
          unfold cKeys at q
          simp only [ee] at q
          obtain ⟨v, h1, a', kvs', e3, st, k1, k2⟩ := hE.at' i _ ee
          rw [e1] at h1
          cases h1
          cases e3
          have ek : kvs' = kvs := by
            rcases st.2 with h | ⟨o', h⟩
            · rw [e2] at h
              cases h
            · rw [e2] at h
              cases h
              rfl
          subst ek
          exact ⟨.ref a, e1, a, o, rfl, .inl ⟨kvs', e2, q _ ρ H .refl hS (walks_keys st.1 e2 k1)⟩⟩
        | _ =>
          unfold cKeys at q
          simp only [ee] at q
          exact (show False from q).elim
theorem keys_there {i : Nat} {env : Env} {ro w : List D} {ds w' : List D} (h : cKeys i env ro w = .ok ds w') : ∃ xs, env[i]? = some (some (.dic ds xs)) ∧ w' = w := by
  unfold cKeys at h
  split at h
  · rename_i ks xs e
    cases h
    exact ⟨xs, e, rfl⟩
  · cases h
/-- for k in d -/
def OS.calm : OS → OS
  | .go fl env w => .go fl env w
  | _ => .no
end
section
variable {t : Tg} {own : List Nat} {i : Nat} {tt : Env → M Bool} {f : EF} {k : List D → M D} {env : Env} {ro w : List D} {ks xs : List D} {body : SF}
theorem x_keys (h : env[i]? = some (some (.dic ks xs))) : cKeys i env ro w = .ok ks w := by
  unfold cKeys
  rw [h]
end
end Fx
/-! Dicts whose keys are tuples, nested too. -/
namespace Fx
open PySem PySem.Spec L2 PyProof.Rows
section
variable {X : Cx} {pins : List (Addr × Obj)} {σ : L2.St} {H : Hp} {s : Shared} {ρ : Zn}
mutual
theorem Rep.nest (I : Inv X pins σ H s) : ∀ (d : D) {v : V} {u : Value} {κ : NestedKey}, toKey d = some κ → Rep (cfg X) ρ H d v → RelV v u → NestedIs s.heap κ u
  | .int i, v, u, κ, e, h, r => by
    cases e
    cases (show v = .int i from h)
    obtain ⟨t, rfl⟩ := (show ∃ t, u = Value.int i t from r)
    exact .int i t
  | .str x, v, u, κ, e, h, r => by
    cases e
    cases (show v = .str x from h)
    obtain ⟨t, rfl⟩ := (show ∃ t, u = Value.str x t from r)
    exact .text x t
  | .tup ds, v, u, κ, e, ⟨a, vs, ev, h, r⟩, rv => by
    unfold toKey at e
    cases q : toKeys ds with
    | none => rw [q] at e; cases e
    | some ks =>
      rw [q] at e
      cases e
      subst ev
      cases (show u = Value.ref a from rv)
      obtain ⟨its, rl, ⟨o, h1, h2, n, h3⟩, _⟩ := I.tuple (Still.sqT h)
      exact .tup h1 h2 h3 (by simpa using Reps.nest I ds q r rl)
  | .non, v, u, κ, e, _, _ => by cases e
  | .bl _, v, u, κ, e, _, _ => by cases e
  | .fn _, v, u, κ, e, _, _ => by cases e
  | .rng _, v, u, κ, e, _, _ => by cases e
  | .ref _, v, u, κ, e, _, _ => by cases e
  | .lst _, v, u, κ, e, _, _ => by cases e
  | .dic _ _, v, u, κ, e, _, _ => by cases e
  | .dct _ _, v, u, κ, e, _, _ => by cases e
  | .ins _ _ _, v, u, κ, e, _, _ => by cases e
theorem Reps.nest (I : Inv X pins σ H s) : ∀ (ds : List D) {vs : List V} {us : List Value} {ks : List NestedKey}, toKeys ds = some ks → Reps (cfg X) ρ H ds vs → Vals vs us → NestedAll s.heap ks us
  | [], vs, us, ks, e, h, r => by
    cases e
    cases (show vs = [] from h)
    cases r
    exact .nil
  | d :: ds, vs, us, ks, e, ⟨v, r, ev, h1, h2⟩, rv => by
    subst ev
    unfold toKeys at e
    cases q1 : toKey d with
    | none => simp only [q1] at e; cases e
    | some d1 =>
      cases q2 : toKeys ds with
      | none => simp only [q1, q2] at e; cases e
      | some ds2 =>
        simp only [q1, q2] at e
        cases e
        cases rv with
        | cons r1 r2 => exact .cons (Rep.nest I d q1 h1 r1) (Reps.nest I ds q2 h2 r2)
end
end
/-- keys and values of a dict, and its raw triples -/
inductive XR : List D → List V → List (NestedKey × Addr × Value) → Prop
  | nil : XR [] [] []
  | cons {k : D} {v : V} {κ : List NestedKey} {a : Addr} {u : Value} {ks : List D} {vs : List V} {xs : List (NestedKey × Addr × Value)} : toKey k = some (.tup κ) → (NestedKey.tup κ).depth ≤ 8 → RelV v u → XR ks vs xs → XR (k :: ks) (v :: vs) ((.tup κ, a, u) :: xs)
section
variable {P : Program} {w : World} {es : List DictEntry} {ks : List D} {as : List Addr} {vs : List V} {xs : List (NestedKey × Addr × Value)}
theorem XR.keys (h : XR ks vs xs) : ks.map toKey = (xs.map (·.1)).map some := by
  induction h with
  | nil => rfl
  | cons h1 _ _ _ ih => simp only [List.map_cons, h1, ih]
theorem XR.len (h : XR ks vs xs) : ks.length = xs.length := by
  have := congrArg List.length h.keys
  simpa using this
end
section
variable {X : Cx} {pins : List (Addr × Obj)} {σ : L2.St} {H : Hp} {s : Shared} {ρ : Zn} {es : List DictEntry} {ep : Nat} {ks : List D} {as : List Addr} {vs : List V} {xs : List (NestedKey × Addr × Value)} {a : Addr}
end
/-! ### what is held -/
def isKey (k : D) : Bool := match toKey k with
  | some (.tup κ) => decide ((NestedKey.tup κ).depth ≤ 8)
  | _ => false
theorem isKey_some {k : D} (h : isKey k = true) : ∃ κ, toKey k = some (.tup κ) ∧ (NestedKey.tup κ).depth ≤ 8 := by
  unfold isKey at h
  split at h
  · exact ⟨_, by assumption, by simpa using h⟩
  · cases h
def dhasN (ks : List D) (k : D) : Bool := ks.any fun q => decide (toKey q = toKey k)
def dputXN : List D → List D → D → D → List D
  | q :: ks, x :: xs, k, v => (if toKey q = toKey k then v else x) :: dputXN ks xs k v
  | _, _, _, _ => []
def dputN (ks xs : List D) (k v : D) : D := if dhasN ks k = true then .dct ks (dputXN ks xs k v) else .dct (ks ++ [k]) (xs ++ [v])
section
variable {C : Cfg} {ρ : Zn} {H : Hp} {ks ds : List D} {vs : List V} {xs : List (NestedKey × Addr × Value)} {k dv : D} {κ : NestedKey} {v : V} {u : Value} {b : Addr}
end
/-! ### rules -/
section
variable {X : Cx} {pos pos' apos cpos p : Pos} {o i e f value : Expr} {td ty tx tv : TE}
end
end Fx
/-! Sorting of nested tuples: two of them may differ in shape behind the first place at which they differ. -/
namespace Fx.So
open PySem PySem.W PySem.SeqAt PySem.Calls PyProof.Rows
mutual
/-- x < y can be asked -/
def akin : PyData → PyData → Bool
  | .int _, .int _ => true
  | .str _, .str _ => true
  | .tuple xs, .tuple ys => akinAll xs ys
  | _, _ => false
def akinAll : List PyData → List PyData → Bool
  | x :: xs, y :: ys => akin x y && (!PyData.eqv x y || akinAll xs ys)
  | [], _ => true
  | _ :: _, [] => true
end
theorem akin_cons {x y : PyData} {xs ys : List PyData} (h : akinAll (x :: xs) (y :: ys) = true) : akin x y = true ∧ (PyData.eqv x y = true → akinAll xs ys = true) := by
  rw [akinAll, Bool.and_eq_true, Bool.or_eq_true] at h
  refine ⟨h.1, fun e => ?_⟩
  rcases h.2 with z | z
  · rw [e] at z
    cases z
  · exact z
abbrev lx := PyProof.Rows.lexLt itemOrd
mutual
theorem toks_akin : ∀ (x y : PyData), akin x y = true → (PyData.eqv x y = true → keyToks x = keyToks y) ∧ (PyData.eqv x y = false → ∀ l m, lx (keyToks x ++ l) (keyToks y ++ m) = lx (keyToks x) (keyToks y))
  | .int a, y, h => by
    cases y with
    | int b => exact toks_eqv (.int a) (.int b) rfl
    | _ => simp [akin] at h
  | .str a, y, h => by
    cases y with
    | str b => exact toks_eqv (.str a) (.str b) rfl
    | _ => simp [akin] at h
  | .tuple xs, y, h => by
    cases y with
    | tuple ys =>
      have t := toks_akinAll xs ys (by simpa [akin] using h)
      simp only [keyToks, PyData.eqv]
      exact t
    | _ => simp [akin] at h
  | .none, y, h => by cases y <;> simp [akin] at h
  | .bool _, y, h => by cases y <;> simp [akin] at h
  | .list _, y, h => by cases y <;> simp [akin] at h
  | .dict _, y, h => by cases y <;> simp [akin] at h
theorem toks_akinAll : ∀ (xs ys : List PyData), akinAll xs ys = true → (PyData.eqvAll xs ys = true → keyToksAll xs = keyToksAll ys) ∧ (PyData.eqvAll xs ys = false → ∀ l m, lx (keyToksAll xs ++ l) (keyToksAll ys ++ m) = lx (keyToksAll xs) (keyToksAll ys))
  | [], [], _ => ⟨fun _ => rfl, fun e => (by simp [PyData.eqvAll] at e)⟩
  | [], y :: ys, _ => toksAll_eqv [] (y :: ys) rfl
  | x :: xs, [], _ => toksAll_eqv (x :: xs) [] rfl
  | x :: xs, y :: ys, h => by
    obtain ⟨h1, h2⟩ := akin_cons h
    have a := toks_akin x y h1
    have self : ∀ (p q : List (Int ⊕ List Nat)), lx (.inl 1 :: p) (.inl 1 :: q) = lx p q := fun p q => lex_self (O := itemOrd) _ p q
    cases hx : PyData.eqv x y with
    | true =>
      have b := toks_akinAll xs ys (h2 hx)
      refine ⟨fun e => ?_, fun e l m => ?_⟩
      · rw [eqv_all_cons, hx, Bool.true_and] at e
        rw [toks_all_cons, toks_all_cons, a.1 hx, b.1 e]
      · rw [eqv_all_cons, hx, Bool.true_and] at e
        rw [toks_all_cons, toks_all_cons, a.1 hx, List.cons_append, List.cons_append, self, self, List.append_assoc, List.append_assoc]
        exact (lex_pre _ _ _).trans ((b.2 e l m).trans (lex_pre _ _ _).symm)
    | false =>
      refine ⟨fun e => (by rw [eqv_all_cons, hx] at e; cases e), fun _ l m => ?_⟩
      rw [toks_all_cons, toks_all_cons, List.cons_append, List.cons_append, self, self, List.append_assoc, List.append_assoc]
      exact (a.2 hx _ _).trans (a.2 hx _ _).symm
end
/-! a < b of tuples: < is asked at the first place that differs alone -/
section
open AutoSeq1 (wpAny_loadPart')
open MeetsSeq MeetsSeq2 MeetsSeq3 SeqRoads2

end
section
variable {prog : Program} {w : World} {A : Around} {E : Value → Shared → Prop} {s : Shared}
end
/-! what is read is one thing -/
mutual
def plainD : PyData → Bool
  | .int _ => true
  | .str _ => true
  | .tuple xs => plainDs xs
  | _ => false
def plainDs : List PyData → Bool
  | [] => true
  | x :: xs => plainD x && plainDs xs
end
/-- what can be sorted: all texts; all numbers; all tuples that begin with a text, or with a number -/
def firstT : PyData → Nat
  | .int _ => 0
  | .str _ => 1
  | .tuple (.int _ :: _) => 2
  | .tuple (.str _ :: _) => 3
  | _ => 4
structure CanSort (ds : List PyData) : Prop where
  pl : ∀ d ∈ ds, plainD d = true
  ak : ∀ d ∈ ds, ∀ d' ∈ ds, akin d d' = true
  ft : ∃ n, n < 4 ∧ ∀ d ∈ ds, firstT d = n
end Fx.So
/-! Dicts with nested tuples as keys, sorted(..): what they do to trees. -/
namespace Fx
open PySem PySem.Spec L2 PyProof.Rows PySem.W
section
variable {C : Cfg} {ρ : Zn} {H : Hp}
theorem Seen.dct {ks ds : List D} {v : V} (h : Seen C ρ H (.dct ks ds) v) : ∃ a es ep as vs, v = .ref a ∧ Rd H a (DNo a es ep) ∧ DEnts C.w es ks as vs ∧ (ks.map toKey).Nodup ∧ Reps C ρ H ks (as.map .ref) ∧ Reps C ρ H ds vs := by
  rcases h with ⟨a, es, ep, as, vs, e, h, en, nd, rk, r⟩ | ⟨a, e, es, ep, as, vs, h, en, nd, rk, r⟩
  · exact ⟨a, es, ep, as, vs, e, h.2, en, nd, rk, r⟩
  · exact ⟨a, es, ep, as, vs, e, .inl h, en, nd, rk, r⟩
theorem Seen.key {k : D} {v : V} (h : Seen C ρ H k v) (hk : isKey k = true) : Rep C ρ H k v := by
  rcases h with h | ⟨a, e, h⟩
  · exact h
  · obtain ⟨κ, e1, _⟩ := isKey_some hk
    cases k with
    | tup ds => exact (show False from h).elim
    | _ => cases e1
end
section
variable {X : Cx} {ρ : Zn} {H : Hp}
end
/-- d[k] = v -/
def gPutN (v o k : D) : M D := match o with
  | .ref n => fun ro w => if n < ro.length then .no else match w[n - ro.length]? with
    | some (.dct ks xs) => if isKey k = true ∧ ks.length < sizeLine then .ok .non (w.set (n - ro.length) (dputN ks xs k v)) else .no
    | _ => .no
  | _ => M.no
def cNewN : EF := fun _ => mNew (.dct [] [])
def sPutN (fo fk fv : EF) : SF := sLift fv fun v => sLift fo fun o => sLift fk fun k => sLift (fun _ => gPutN v o k) fun _ env _ w => .go .nx env w
section
variable {C : Cfg} {W : WX} {σ : L2.St} {ρ : Zn} {H : Hp} {ro w : List D} {Q : VK}
end
section
variable {X : Cx} {W : WX} {fo fk fv f : EF} {o i e value : Expr} {p pos pos' apos : Pos}
end
/-! ### sorted -/
abbrev kle : PyData → PyData → Bool := sortLe (listOrd itemOrd) false keyToks
def canSort (ps : List PyData) : Bool := ps.all So.plainD && ps.all (fun d => ps.all fun d' => So.akin d d') && ps.all (fun d => d.canLay0 && decide (d.depth ≤ 64)) && (match ps with
  | [] => true
  | p :: _ => decide (So.firstT p < 4) && ps.all fun d => decide (So.firstT d = So.firstT p))
structure SortZ (K : PySem.W.Frag) (H : Hp) (zs : List (V × PyData)) : Prop where
  dp : ∀ z ∈ zs, Dp K H z.1 z.2
  can : canSort (zs.map (·.2)) = true
  len : zs.length ≤ sizeLine
section
variable {X : Cx}
end
section
variable {C : Cfg} {ρ : Zn} {H : Hp}
theorem pys_map : ∀ ds : List D, D.pys ds = ds.map D.py
  | [] => rfl
  | d :: ds => by simp only [D.pys, List.map_cons, pys_map ds]
end
section
variable {X : Cx}
theorem hu70 {k : Nat} {A : Around} (r : Room k A) : A.units + 70 < cLine := by
  have := r.un
  omega
end
section
variable {fo fk fv : EF} {env : Env} {ro w : List D}
@[simp] theorem x_newN : cNewN env ro w = .ok (.ref (ro.length + w.length)) (w ++ [.dct [] []]) := by
  show mNew _ ro w = _
  simp
@[simp] theorem x_putN : sPutN fo fk fv env ro w = (fv env ro w).st env fun v w1 => (fo env ro w1).st env fun o w2 => (fk env ro w2).st env fun k w3 => (gPutN v o k ro w3).st env fun _ w4 => .go .nx env w4 := by
  refine x_lift.trans (congrArg _ ?_)
  funext v w1
  refine x_lift.trans (congrArg _ ?_)
  funext o w2
  refine x_lift.trans (congrArg _ ?_)
  funext i w3
  exact x_lift
end
end Fx
/-! zip, min, abs, join, dicts written out. -/
namespace Fx
open PySem PySem.Spec L2 PyProof.Rows
/-! ### zip of two lists -/
def zipD (ds es : List D) : List D := (ds.zip es).map fun q => .tup [q.1, q.2]
def gZip : List D → M (List D)
  | [.lst ds, .lst es] => M.pure (zipD ds es)
  | _ => M.no
def cZip (fs : Env → M (List D)) : Env → M (List D) := fun env => M.bind (fs env) gZip
section
variable {X : Cx} {W : WX} {pos p tpos apos : Pos} {a b e o : Expr} {es elts : List Expr} {kk : Nat} {fs : Env → M (List D)} {f fo : EF}
/-! ### min, abs -/
def gMin2 : List D → M D
  | [.int i, .int j] => M.pure (.int (if j < i then j else i))
  | _ => M.no
def rAbs : List V → Hp → VK → Prop := fun xs H Q => ∃ i, xs = [.int i] ∧ Q (.int (if i < 0 then -i else i)) H
theorem cf_abs : CallR X (.builtin "abs") rAbs := call_abs
def gAbs : D → M D
  | .int i => M.pure (.int i.natAbs)
  | _ => M.no
theorem ok_abs {C : Cfg} : Ok1 C rAbs gAbs := by
  intro W σ ρ H ro w d x Q hS hd q
  cases d with
  | int i =>
    refine ⟨i, by rw [hd.int], ?_⟩
    have e : (if i < 0 then -i else i) = (i.natAbs : Int) := by
      split <;> omega
    rw [e]
    exact ok_int hS q
  | _ => exact (show False from q).elim
/-! ### join -/
def D.str? : D → Option Str
  | .str x => some x
  | _ => none
def strs? : List D → Option (List Str)
  | [] => some []
  | d :: ds => match d.str?, strs? ds with
    | some x, some xs => some (x :: xs)
    | _, _ => none
theorem strs_ok : ∀ {ds : List D} {ys : List Str}, strs? ds = some ys → ds = ys.map .str
  | [], ys, h => by cases h; rfl
  | d :: ds, ys, h => by
    unfold strs? at h
    cases e1 : d.str? with
    | none => simp only [e1] at h; cases h
    | some x =>
      cases e2 : strs? ds with
      | none => simp only [e1, e2] at h; cases h
      | some xs =>
        simp only [e1, e2] at h
        cases h
        rw [List.map_cons, ← strs_ok e2]
        cases d with
        | str y => cases e1; rfl
        | _ => cases e1
theorem strs_map : ∀ ys : List Str, strs? (ys.map .str) = some ys
  | [] => rfl
  | y :: ys => by
    unfold strs?
    rw [List.map_cons]
    simp only [D.str?, strs_map ys]
theorem reps_str {C : Cfg} {ρ : Zn} {H : Hp} : ∀ {ys : List Str} {vs : List V}, Reps C ρ H (ys.map .str) vs → vs = ys.map .str
  | [], vs, h => h
  | y :: ys, vs, ⟨v, r, e, h1, h2⟩ => by rw [e, show v = .str y from h1, reps_str h2]; rfl
def gJoin (x : Str) (d : D) : M D := match d with
  | .lst ds => fun _ w => (match strs? ds with
    | some ys => if (ys.map (·.length)).sum + ys.length * x.length ≤ 16777216 then .ok (.str (Txt.join x ys)) w else .no
    | none => .no)
  | _ => M.no
def cJoin (fo f : EF) : EF := fun env => M.bind (fo env) fun o => match o with
  | .str x => M.bind (f env) fun d => M.bind (M.see d) fun d => gJoin x d
  | _ => M.no
theorem pf_join (ho : PE X o (tE (cfg X) W fo)) (he : PE X e (tE (cfg X) W f)) (hs : starEach [e] X.env = [(false, eval e X.env)] := by rfl) (hbase : attributeBase o "join" X.env (eval o X.env) = eval o X.env := by rfl) (hline : (apos.endLine == pos.line) = true := by rfl) :
    PE X (.Call (.Attribute o "join" apos) [e] [] pos) (tE (cfg X) W (cJoin fo f)) := pe_imp (pe_join ho he hs hbase hline) fun σ H Q ⟨ρ, env, ro, w, hS, hE, q⟩ => by
  refine tR_seq hS hE q fun d w1 v ρ1 H1 x1 s1 r1 q1 => ?_
  cases d with
  | str x =>
    cases (show v = .str x from r1)
    refine ⟨⟨x, rfl⟩, tR_seq s1 (hE.ext x1) q1 fun d w2 u ρ2 H2 x2 s2 r2 q2 => ?_⟩
    have sd := seen_of s2 r2
    have q3 : AfterR (cfg X) (Rep (cfg X)) W σ ρ2 H2 ro (gJoin x (see ro w2 d) ro w2) Q := q2
    generalize see ro w2 d = d' at sd q3
    cases d' with
    | lst ds =>
      unfold gJoin at q3
      cases e1 : strs? ds with
      | none => simp only [e1] at q3; exact (show False from q3).elim
      | some ys =>
        simp only [e1] at q3
        by_cases c : (ys.map (·.length)).sum + ys.length * x.length ≤ 16777216
        · rw [if_pos c] at q3
          obtain ⟨a, vs, rfl, hs, r⟩ := sd.lst
          rw [strs_ok e1] at r
          rw [reps_str r] at hs
          exact ⟨x, a, ys, rfl, rfl, .inl hs, c, ok_str s2 q3⟩
        · rw [if_neg c] at q3
          exact (show False from q3).elim
    | _ => exact (show False from q3).elim
  | _ => exact (show False from q1).elim
end
/-! ### {k: v, ..} -/
def cPairs : List (EF × EF) → Env → M (List (D × D))
  | [], _ => M.pure []
  | (k, v) :: r, env => M.bind (k env) fun x => M.bind (v env) fun y => M.bind (cPairs r env) fun ps => M.pure ((x, y) :: ps)
def putD (d : D) (kv : D × D) : D := match d with
  | .dic ks xs => dput ks xs kv.1 kv.2
  | d => d
def gDisp (ps : List (D × D)) : M D := fun _ w => if (ps.all fun kv => (keyOf kv.1).isSome) = true ∧ ps.length ≤ 15 then .ok (ps.foldl putD (.dic [] [])) w else .no
def cDisp (ps : List (EF × EF)) : EF := fun env => M.bind (cPairs ps env) gDisp
abbrev RPs (C : Cfg) : Zn → Hp → List (D × D) → List (V × V) → Prop := fun ρ H ps vs => Reps C ρ H (ps.map (·.1)) (vs.map (·.1)) ∧ Reps C ρ H (ps.map (·.2)) (vs.map (·.2))
theorem tE_pairs {C : Cfg} {W : WX} : ∀ (ps : List (EF × EF)) {σ : L2.St} {H : Hp} {Q : List (V × V) → Hp → Prop}, tR C (RPs C) W (cPairs ps) σ H Q → tPairs (ps.map fun q => (tE C W q.1, tE C W q.2)) σ H Q
  | [], σ, H, Q, ⟨ρ, env, ro, w, hS, hE, q⟩ => q [] ρ H .refl hS ⟨rfl, rfl⟩
  | (k, v) :: r, σ, H, Q, ⟨ρ, env, ro, w, hS, hE, q⟩ => by
    refine tR_seq hS hE q fun dk w1 vk ρ1 H1 x1 s1 r1 q1 => ?_
    refine tR_seq s1 (hE.ext x1) q1 fun dv w2 vv ρ2 H2 x2 s2 r2 q2 => ?_
    refine tE_pairs r ?_
    refine tR_seq s2 ((hE.ext x1).ext x2) q2 fun ds w3 vs ρ3 H3 x3 s3 r3 q3 => ?_
    exact q3 _ ρ3 H3 .refl s3 ⟨⟨_, _, rfl, Rep.ext x3 dk (Rep.ext x2 dk r1), r3.1⟩, _, _, rfl, Rep.ext x3 dv r2, r3.2⟩
theorem disp_keys {C : Cfg} {ρ : Zn} {H : Hp} : ∀ {ps : List (D × D)} {vs : List (V × V)}, (ps.all fun kv => (keyOf kv.1).isSome) = true → RPs C ρ H ps vs → ∃ kvs : List (Key × V), vs = kvs.map (fun kv => (kV kv.1, kv.2)) ∧ ps.map (fun kv => keyOf kv.1) = kvs.map (fun kv => some kv.1) ∧ Reps C ρ H (ps.map (·.2)) (kvs.map (·.2))
  | [], vs, _, h => by
    have e : vs = [] := by simpa [Reps] using h.1
    subst e
    exact ⟨[], rfl, rfl, rfl⟩
  | p :: ps, vs, hk, ⟨⟨y, r, e1, h1, h2⟩, z, r', e2, g1, g2⟩ => by
    cases vs with
    | nil => simp at e1
    | cons v vs =>
      simp only [List.map_cons, List.cons.injEq] at e1 e2
      obtain ⟨e1, e1'⟩ := e1
      obtain ⟨e2, e2'⟩ := e2
      subst e1 e1' e2 e2'
      rw [List.all_cons, Bool.and_eq_true] at hk
      obtain ⟨kvs, k1, k2, k3⟩ := disp_keys hk.2 ⟨h2, g2⟩
      obtain ⟨κ, e⟩ := keySome hk.1
      refine ⟨(κ, v.2) :: kvs, ?_, by simp only [List.map_cons, e, k2], v.2, _, rfl, g1, k3⟩
      rw [k1, List.map_cons]
      congr 1
      rw [← key_rep e h1]
theorem disp_rep {C : Cfg} {ρ : Zn} {H : Hp} : ∀ {ps : List (D × D)} {kvs : List (Key × V)} {d : D} {acc : List (Key × V)}, ps.map (fun kv => keyOf kv.1) = kvs.map (fun kv => some kv.1) → Reps C ρ H (ps.map (·.2)) (kvs.map (·.2)) → RepD C ρ H d acc → RepD C ρ H (ps.foldl putD d) (mergeK acc kvs)
  | [], kvs, d, acc, h1, _, h => by
    have e : kvs = [] := by simpa using h1.symm
    subst e
    exact h
  | p :: ps, kvs, d, acc, h1, h2, h => by
    cases kvs with
    | nil => simp at h1
    | cons kv kvs =>
      obtain ⟨v, r, e, g1, g2⟩ := h2
      simp only [List.map_cons, List.cons.injEq] at h1 e
      obtain ⟨e1, e2⟩ := e
      subst e1 e2
      obtain ⟨ks, xs, rfl, k1, k2⟩ := h
      show RepD C ρ H (ps.foldl putD (putD (.dic ks xs) p)) (mergeK (putK acc kv.1 kv.2) kvs)
      exact disp_rep (ps := ps) h1.2 g2 (dput_rep h1.1 g1 k1 k2)
section
variable {X : Cx} {W : WX} {pos : Pos} {keys : List (Option Expr)} {values : List Expr} {k v : Expr} {ps : List (EF × EF)} {fk fv : EF}
theorem pps_n : PPs X pos [] [] (([] : List (EF × EF)).map fun q => (tE (cfg X) W q.1, tE (cfg X) W q.2)) := pps_nil
theorem pps_c (hk : PE X k (tE (cfg X) W fk)) (hv : PE X v (tE (cfg X) W fv)) (hr : PPs X pos keys values (ps.map fun q => (tE (cfg X) W q.1, tE (cfg X) W q.2))) : PPs X pos (some k :: keys) (v :: values) (((fk, fv) :: ps).map fun q => (tE (cfg X) W q.1, tE (cfg X) W q.2)) := pps_cons hk hv hr
theorem pf_disp (h : PPs X pos keys values (ps.map fun q => (tE (cfg X) W q.1, tE (cfg X) W q.2))) (hall : keys.all (·.isSome) = true := by rfl) (hl : keys.length = values.length := by rfl) (h0 : keys ≠ [] := by exact fun z => nomatch z) (h15 : keys.length ≤ 15 := by exact Nat.le_of_ble_eq_true rfl) :
    PE X (.Dict keys values pos) (tE (cfg X) W (cDisp ps)) := pe_imp (pe_disp h hall hl h0 h15) fun σ H Q ⟨ρ, env, ro, w, hS, hE, q⟩ => by
  intro p hp
  obtain ⟨xh, sh⟩ := hide_new (o := .dK []) hS hp
  refine tE_pairs ps ?_
  refine ⟨ρ.hide p, env, ro, w, sh, hE.extR xh, ?_⟩
  replace q : AfterR (cfg X) (Rep (cfg X)) W σ ρ H ro (M.bind (cPairs ps env) gDisp ro w) Q := q
  unfold M.bind at q
  have out : ∀ {ρ' : Zn} {H' : Hp}, Ext (ρ.hide p) ρ' (upd H p (.dK [])) H' → H' p = some (.dK []) ∧ ρ'.h = p :: ρ.h ∧ Ext ρ ⟨ρ'.r, ρ.h⟩ H H' := fun {ρ' H'} x => by
    have hh : ρ'.h = p :: ρ.h := x.hid
    refine ⟨by rw [x.same p List.mem_cons_self]; exact upd_same, hh, ?_⟩
    have xo : Ext ρ ⟨(ρ.hide p).r, ρ.h⟩ H (upd H p (.dK [])) := ext_new hS hp
    exact ext_out xo rfl hp x
  cases ep : cPairs ps env ro w with
  | no => rw [ep] at q; exact q
  | exn c ns xs w1 =>
    rw [ep] at q
    intro cls dx ρ' H' x s hX
    obtain ⟨o1, o2, o3⟩ := out x
    obtain ⟨xe, se⟩ := hide_end s o2
    refine q cls dx _ H' o3 se ?_
    obtain ⟨A, g1, g2, g3⟩ := hX
    refine ⟨A, g1, g2, ?_⟩
    rcases g3 with g3 | ⟨d, fs, k1, k2, k3, k4, k5, k6⟩
    · exact .inl g3
    · exact .inr ⟨d, fs, k1, k2, (xe.keep _ _ k4 k3).2, k4, k5, Reps.extR xe _ k6⟩
  | ok kvd w1 =>
    rw [ep] at q
    simp only at q
    unfold gDisp at q
    by_cases c : (kvd.all fun kv => (keyOf kv.1).isSome) = true ∧ kvd.length ≤ 15
    · rw [if_pos c] at q
      intro vs ρ' H' x s r
      obtain ⟨o1, o2, o3⟩ := out x
      obtain ⟨kvs, k1, k2, k3⟩ := disp_keys c.1 r
      refine ⟨o1, kvs, k1, by rw [← map_len (f := keyOf) (ks := kvd.map (·.1)) (g := fun kv : Key × V => some kv.1) (by rw [List.map_map]; exact k2), List.length_map]; exact c.2, ?_⟩
      have pm : p ∈ ρ'.h := by rw [o2]; exact List.mem_cons_self
      obtain ⟨xp, sp⟩ := hide_put (o := .dK (mergeK [] kvs)) s pm
      obtain ⟨xe, se⟩ := hide_end sp o2
      obtain ⟨ks, xs, e, m1, m2⟩ := disp_rep (d := .dic [] []) (acc := []) k2 k3 ⟨[], [], rfl, rfl, rfl⟩
      rw [e] at q
      refine q (.ref p) ⟨ρ'.r, ρ.h⟩ _ (ext_upd o3 hp (hS.fresh hp).2) se ⟨p, _, rfl, ⟨⟨(s.hid p pm).1, (hS.fresh hp).2⟩, .inl upd_same⟩, m1, Reps.extR xe _ (Reps.extR xp _ m2)⟩
    · rw [if_neg c] at q
      exact (show False from q).elim
end
section
variable {env : Env} {ro w : List D} {f fo fk fv : EF} {fs : Env → M (List D)} {i j : Int}
@[simp] theorem x_zip : cZip fs env ro w = (fs env ro w).an fun ds w1 => gZip ds ro w1 := by
  show M.bind (fs env) _ ro w = _
  simp
@[simp] theorem zip_lst {ds es : List D} : gZip [.lst ds, .lst es] ro w = .ok (zipD ds es) w := rfl
@[simp] theorem min_int : gMin2 [.int i, .int j] ro w = .ok (.int (if j < i then j else i)) w := rfl
@[simp] theorem abs_int : gAbs (.int i) ro w = .ok (.int i.natAbs) w := rfl
theorem x_join {x : Str} (h : fo env ro w = .ok (.str x) w) : cJoin fo f env ro w = (f env ro w).an fun d w1 => gJoin x (see ro w1 d) ro w1 := by
  show M.bind (fo env) _ ro w = _
  rw [x_bind, h, an_ok]
  simp
theorem join_lst {x : Str} {ys : List Str} (h : (ys.map (·.length)).sum + ys.length * x.length ≤ 16777216) : gJoin x (.lst (ys.map .str)) ro w = .ok (.str (Txt.join x ys)) w := by
  unfold gJoin
  simp only [strs_map, if_pos h]
@[simp] theorem x_disp1 : cDisp [(fk, fv)] env ro w = (fk env ro w).an fun k w1 => (fv env ro w1).an fun v w2 => if (keyOf k).isSome = true then .ok (.dic [k] [v]) w2 else .no := by
  show M.bind (cPairs [(fk, fv)] env) gDisp ro w = _
  unfold cPairs
  simp only [x_bind]
  cases fk env ro w with
  | ok k w1 =>
    simp only [an_ok]
    cases fv env ro w1 with
    | ok v w2 =>
      simp only [an_ok]
      unfold cPairs gDisp
      simp [putD, dput, dhas]
    | _ => rfl
  | _ => rfl
end
section
variable {X : Cx} {W : WX} {pos : Pos} {a b : Expr} {fa fb : EF}
end
end Fx
/-! Formulas and texts, sorted; formulas as keys. -/
namespace Fx
open PySem PySem.Spec L2 PyProof.Rows PySem.W
/-! ### keys -/
mutual
def ofKey : NestedKey → D
  | .none => .non
  | .num i => .int i
  | .text x => .str x
  | .tup ks => .tup (ofKeys ks)
def ofKeys : List NestedKey → List D
  | [] => []
  | k :: ks => ofKey k :: ofKeys ks
end
theorem Fm.key : ∀ φ : Fm, ∃ κ, toKey φ.toD = some (.tup κ) ∧ (NestedKey.tup κ).depth = φ.ht
  | .fal => ⟨_, rfl, rfl⟩
  | .var x => ⟨_, rfl, rfl⟩
  | .imp a b => by
    obtain ⟨κ, h1, h2⟩ := a.key
    obtain ⟨μ, g1, g2⟩ := b.key
    exact ⟨[.text "implies", .tup κ, .tup μ], by simp only [Fm.toD, toKey, toKeys, h1, g1]; rfl, by simp only [NestedKey.depth, NestedKey.depthAll] at h2 g2 ⊢; simp only [Fm.ht]; omega⟩
  | .and a b => by
    obtain ⟨κ, h1, h2⟩ := a.key
    obtain ⟨μ, g1, g2⟩ := b.key
    exact ⟨[.text "and", .tup κ, .tup μ], by simp only [Fm.toD, toKey, toKeys, h1, g1]; rfl, by simp only [NestedKey.depth, NestedKey.depthAll] at h2 g2 ⊢; simp only [Fm.ht]; omega⟩
  | .or a b => by
    obtain ⟨κ, h1, h2⟩ := a.key
    obtain ⟨μ, g1, g2⟩ := b.key
    exact ⟨[.text "or", .tup κ, .tup μ], by simp only [Fm.toD, toKey, toKeys, h1, g1]; rfl, by simp only [NestedKey.depth, NestedKey.depthAll] at h2 g2 ⊢; simp only [Fm.ht]; omega⟩
  | .box a => by
    obtain ⟨κ, h1, h2⟩ := a.key
    exact ⟨[.text "box", .tup κ], by simp only [Fm.toD, toKey, toKeys, h1]; rfl, by simp only [NestedKey.depth, NestedKey.depthAll] at h2 ⊢; simp only [Fm.ht]; omega⟩
theorem Fm.isKey {φ : Fm} (h : φ.ht ≤ 8) : isKey φ.toD = true := by
  obtain ⟨κ, h1, h2⟩ := φ.key
  unfold Fx.isKey
  rw [h1]
  simp only [h2, h, decide_true]
/-! ### order -/
theorem Fm.plainD : ∀ φ : Fm, So.plainD φ.toD.py = true
  | .fal => rfl
  | .var _ => rfl
  | .imp a b => by simp [Fm.toD, D.py, D.pys, So.plainD, So.plainDs, a.plainD, b.plainD]
  | .and a b => by simp [Fm.toD, D.py, D.pys, So.plainD, So.plainDs, a.plainD, b.plainD]
  | .or a b => by simp [Fm.toD, D.py, D.pys, So.plainD, So.plainDs, a.plainD, b.plainD]
  | .box a => by simp [Fm.toD, D.py, D.pys, So.plainD, So.plainDs, a.plainD]
theorem Fm.firstT : ∀ φ : Fm, So.firstT φ.toD.py = 3
  | .fal => rfl
  | .var _ => rfl
  | .imp a b => rfl
  | .and a b => rfl
  | .or a b => rfl
  | .box a => rfl
theorem eqv_lit {a b : String} : PyData.eqv (.str (Str.ofString a)) (.str (Str.ofString b)) = decide (a = b) := by
  rw [Bool.eq_iff_iff]
  simp [PyData.eqv, ofString_inj]
theorem ak2 {t u : String} {xs ys : List PyData} (h : t = u → So.akinAll xs ys = true) : So.akin (.tuple (.str (Str.ofString t) :: xs)) (.tuple (.str (Str.ofString u) :: ys)) = true := by
  rw [So.akin, So.akinAll, So.akin, eqv_lit]
  by_cases c : t = u
  · rw [h c]
    simp
  · simp [c]
theorem akc {x y : PyData} {xs ys : List PyData} (h : So.akin x y = true) (h' : So.akinAll xs ys = true) : So.akinAll (x :: xs) (y :: ys) = true := by
  rw [So.akinAll, h, h']
  simp
theorem ak0 : So.akinAll [] [] = true := by rw [So.akinAll]
theorem akS {x y : Str} : So.akin (.str x) (.str y) = true := by rw [So.akin]
theorem Fm.akin : ∀ φ ψ : Fm, So.akin φ.toD.py ψ.toD.py = true
  | .fal, ψ => by
    cases ψ with
    | fal => exact ak2 fun _ => ak0
    | _ => exact ak2 fun h => absurd h (by decide)
  | .var _, ψ => by
    cases ψ with
    | var y => exact ak2 fun _ => akc akS ak0
    | _ => exact ak2 fun h => absurd h (by decide)
  | .imp a b, ψ => by
    have ia := a.akin
    have ib := b.akin
    cases ψ with
    | imp c d => exact ak2 fun _ => akc (ia c) (akc (ib d) ak0)
    | _ => exact ak2 fun h => absurd h (by decide)
  | .and a b, ψ => by
    have ia := a.akin
    have ib := b.akin
    cases ψ with
    | and c d => exact ak2 fun _ => akc (ia c) (akc (ib d) ak0)
    | _ => exact ak2 fun h => absurd h (by decide)
  | .or a b, ψ => by
    have ia := a.akin
    have ib := b.akin
    cases ψ with
    | or c d => exact ak2 fun _ => akc (ia c) (akc (ib d) ak0)
    | _ => exact ak2 fun h => absurd h (by decide)
  | .box a, ψ => by
    have ia := a.akin
    cases ψ with
    | box c => exact ak2 fun _ => akc (ia c) ak0
    | _ => exact ak2 fun h => absurd h (by decide)
theorem toks_ne {x y : PyData} (h : So.akin x y = true) (e : PyData.eqv x y = false) : keyToks x ≠ keyToks y := fun q => by
  have z := (So.toks_akin x y h).2 e [.inl 0] [.inl 1]
  rw [q] at z
  have z1 : So.lx (keyToks y ++ [.inl 0]) (keyToks y ++ [.inl 1]) = true := (lex_pre (keyToks y) [.inl 0] [.inl 1]).trans (by rw [lex_one]; rfl)
  have z2 : So.lx (keyToks y) (keyToks y) = false := lex_irrefl _
  rw [z1, z2] at z
  cases z
abbrev kTot : TotalLe kle := sortLe_total (listOrd itemOrd) false keyToks
theorem kle_toks {x y : PyData} (h1 : kle x y = true) (h2 : kle y x = true) : keyToks x = keyToks y := by
  have a : (!So.lx (keyToks y) (keyToks x)) = true := h1
  have b : (!So.lx (keyToks x) (keyToks y)) = true := h2
  exact (listOrd itemOrd).total _ _ (by simpa using b) (by simpa using a)
theorem kle_anti {x y : PyData} (h : So.akin x y = true) (h1 : kle x y = true) (h2 : kle y x = true) : PyData.eqv x y = true := by
  cases e : PyData.eqv x y with
  | true => rfl
  | false => exact absurd (kle_toks h1 h2) (toks_ne h e)
/-- a kind of things that are sorted -/
structure Sk (α : Type) where
  f : α → D
  inj : ∀ a b, f a = f b → a = b
  nb : ∀ a, (f a).nb = true
  akin : ∀ a b, So.akin (f a).py (f b).py = true
  plain : ∀ a, So.plainD (f a).py = true
  ft : Nat
  lt : ft < 4
  first : ∀ a, So.firstT (f a).py = ft
section
variable {α : Type} (S : Sk α)
def Sk.le (a b : α) : Bool := kle (S.f a).py (S.f b).py
def Sk.sort (l : List α) : List α := l.mergeSort S.le
theorem Sk.tot : TotalLe S.le := ⟨fun a b c h1 h2 => kTot.trans _ _ _ h1 h2, fun a b => kTot.total _ _⟩
theorem Sk.anti {a b : α} (h1 : S.le a b = true) (h2 : S.le b a = true) : a = b :=
  S.inj a b ((eqv_nb _ _ (S.nb a) (S.nb b)).mp (kle_anti (S.akin a b) h1 h2))
theorem Sk.sorted (l : List α) : (S.sort l).Pairwise fun a b => S.le a b = true := sort_pairwise S.tot l
theorem Sk.mem {l : List α} {a : α} : a ∈ S.sort l ↔ a ∈ l := (List.mergeSort_perm l S.le).mem_iff
/-- what is sorted without repetitions is one list -/
theorem Sk.one {l m : List α} (hl : l.Pairwise fun a b => S.le a b = true) (hm : m.Pairwise fun a b => S.le a b = true) (nl : l.Nodup) (nm : m.Nodup) (h : ∀ a, a ∈ l ↔ a ∈ m) : l = m :=
  List.Perm.eq_of_pairwise (le := fun a b => S.le a b = true) (fun a b _ _ h1 h2 => S.anti h1 h2) hl hm ((List.perm_ext_iff_of_nodup nl nm).mpr h)
theorem Sk.can {l : List α} (h1 : ∀ a ∈ l, (S.f a).lay = true) (h2 : ∀ a ∈ l, (S.f a).dp ≤ 64) : canSort (D.pys (l.map S.f)) = true := by
  rw [pys_map, List.map_map]
  unfold canSort
  simp only [Bool.and_eq_true, List.all_eq_true, decide_eq_true_eq, List.mem_map, Function.comp, forall_exists_index, and_imp, forall_apply_eq_imp_iff₂]
  refine ⟨⟨⟨fun a _ => S.plain a, fun a _ b _ => S.akin a b⟩, fun a ha => ⟨by rw [D.py_lay]; exact h1 a ha, by rw [D.py_dp]; exact h2 a ha⟩⟩, ?_⟩
  cases l with
  | nil => rfl
  | cons b l =>
    simp only [List.map_cons, Bool.and_eq_true, decide_eq_true_eq, List.all_eq_true, Function.comp]
    rw [S.first b]
    refine ⟨S.lt, fun d hd => ?_⟩
    rcases List.mem_cons.mp hd with e | hd
    · rw [e]
      exact S.first b
    · obtain ⟨a, _, rfl⟩ := List.mem_map.mp hd
      exact S.first a
theorem Sk.flats (l : List α) : D.flats (l.map S.f) = true := by
  rw [flats_iff]
  intro d hd
  obtain ⟨a, _, rfl⟩ := List.mem_map.mp hd
  exact D.nb_flat _ (S.nb a)
end
/-! ### each once: of a sorted list -/
section
variable {α : Type} [DecidableEq α]
def ddS (acc : List α) (a : α) : List α := if acc.getLast? = some a then acc else acc ++ [a]
def dd (l : List α) : List α := l.foldl ddS []
end
/-! ### what is collected -/
structure ColOk (φ : Fm) (ks : List Fm) (r : List Fm) : Prop where
  nd : r.Nodup
  sub : ∀ χ ∈ ks, χ ∈ r
  sup : ∀ χ ∈ r, χ ∈ ks ∨ χ ∈ φ.all
  all : ∀ χ ∈ φ.all, χ ∈ r
  len : r.length ≤ ks.length + φ.sz
end Fx
/-! Statements behind which what they have made stands still. -/
namespace Fx
open PySem PySem.Spec L2
/-- what stands behind: the objects that were there ahead; the rest is told -/
def cutW (n m : Nat) (w : List D) : Option (List D) := if m ≤ w.length ∧ (w.take m).all (D.under (n + m)) = true then some (w.take m) else none
def tellE (n m : Nat) (w : List D) (env : Env) : Env := env.map fun o => o.bind (D.tell (told (n + m) (w.drop m) 4))
def sTell (s : SF) : SF := fun env ro w => match s env ro w with
  | .go .nx env' w' => (match cutW ro.length w.length w' with
    | some w2 => .go .nx (tellE ro.length w.length w' env') w2
    | none => .no)
  | _ => .no
section
variable {C : Cfg} {W : WX} {ρ ρ' : Zn} {H H' : Hp} {ro w w' w2 : List D} {σ : L2.St} {env : Env}
theorem cutW_some {n m : Nat} (h : cutW n m w = some w2) : m ≤ w.length ∧ (w.take m).all (D.under (n + m)) = true ∧ w2 = w.take m := by
  unfold cutW at h
  split at h
  · rename_i c
    cases h
    exact ⟨c.1, c.2, rfl⟩
  · cases h
theorem split_at (h : w.length ≤ w'.length) : ro ++ w' = (ro ++ w'.take w.length) ++ w'.drop w.length := by
  rw [List.append_assoc, List.take_append_drop]
theorem cut_len (h : w.length ≤ w'.length) : (ro ++ w'.take w.length).length = ro.length + w.length := by
  rw [List.length_append, List.length_take, Nat.min_eq_left h]
theorem tell_back (hS : RepS C ρ H (ro ++ w)) (hc : cutW ro.length w.length w' = some w2) (x : Ext ρ ρ' H H') (s : RepS C ρ' H' (ro ++ w')) : Ext ρ (ρ'.take (ro.length + w.length)) H H' ∧ RepS C (ρ'.take (ro.length + w.length)) H' (ro ++ w2) := by
  obtain ⟨h1, h2, rfl⟩ := cutW_some hc
  have hlen : ρ.r.length = ro.length + w.length := by rw [hS.len, List.length_append]
  obtain ⟨⟨ν, p⟩, g1, k1, m1⟩ := x
  refine ⟨⟨⟨[], ?_⟩, g1, fun a o e n => ⟨(k1 a o e n).1, Out.take (k1 a o e n).2⟩, m1⟩, ?_⟩
  · show ρ'.r.take _ = _
    rw [p, ← hlen, List.take_left', List.append_nil]
    rfl
  · have z := RepS.take (n := ro.length + w.length) s fun i d hi hd => ?_
    · rw [split_at h1, List.take_left' (cut_len h1)] at z
      exact z
    · by_cases c : i < ro.length
      · rw [List.getElem?_append_left c] at hd
        have hr : i < ρ.r.length := by omega
        have := RepO.below (hS.obj i ρ.r[i] d (List.getElem?_eq_getElem hr) (by rw [List.getElem?_append_left c]; exact hd))
        rw [hlen] at this
        exact this
      · rw [List.getElem?_append_right (by omega)] at hd
        refine List.all_eq_true.mp h2 d (List.mem_of_getElem? (i := i - ro.length) ?_)
        rw [List.getElem?_take_of_lt (by omega)]
        exact hd
theorem tell_env (hc : cutW ro.length w.length w' = some w2) (s : RepS C ρ' H' (ro ++ w')) (e : RepE C ρ' H' env σ) : RepE C (ρ'.take (ro.length + w.length)) H' (tellE ro.length w.length w' env) σ := by
  obtain ⟨h1, h2, rfl⟩ := cutW_some hc
  refine ⟨by unfold tellE; rw [List.length_map]; exact e.len, fun i d hd => ?_⟩
  unfold tellE at hd
  rw [List.getElem?_map] at hd
  cases q : env[i]? with
  | none => rw [q] at hd; cases hd
  | some o =>
    rw [q] at hd
    cases o with
    | none => cases hd
    | some d0 =>
      have hd' : D.tell (told (ro.length + w.length) (w'.drop w.length) 4) d0 = some d := by
        have := Option.some.inj hd
        exact this
      obtain ⟨v, g1, g2⟩ := e.at' i d0 q
      refine ⟨v, g1, ?_⟩
      have s' : RepS C ρ' H' ((ro ++ w'.take w.length) ++ w'.drop w.length) := by rw [← split_at h1]; exact s
      have tk := told_ok s' 4
      rw [cut_len h1] at tk
      exact Rep.tell tk d0 hd' g2
theorem after_tell {D : Ends} {s : SF} (hS : RepS C ρ H (ro ++ w)) (q : AfterS C W ρ H ro (sTell s env ro w) D) : AfterS C W ρ H ro (s env ro w) D := by
  unfold sTell at q
  cases e : s env ro w with
  | no => rw [e] at q; exact q
  | exn c ns xs env' w' => rw [e] at q; exact (show False from q).elim
  | go fl env' w' =>
    rw [e] at q
    cases fl with
    | nx =>
      cases hc : cutW ro.length w.length w' with
      | none =>
        simp only [hc] at q
        exact (show False from q).elim
      | some w2 =>
        simp only [hc] at q
        intro σ' ρ' H' x s1 e1
        obtain ⟨x2, s2⟩ := tell_back hS hc x s1
        exact q σ' _ H' x2 s2 (tell_env hc s1 e1)
    | rt d => exact (show False from q).elim
    | bk => exact (show False from q).elim
    | ct => exact (show False from q).elim
end
section
variable {X : Cx} {W : WX} {st : Stmt} {sts rest : List Stmt} {s t : SF}
theorem execs_app (env : PySem.Env) : ∀ (as bs : List Stmt), execs (as ++ bs) env = execs as env >>= fun f => match f with
    | .next => execs bs env
    | f => pure f
  | [], bs => by
    rw [show execs [] env = pure Flow.next from rfl, pure_bind]
    rfl
  | a :: as, bs => by
    have e1 : ∀ l, execs (a :: l) env = exec a env >>= fun f => match f with
      | .next => execs l env
      | f => pure f := fun _ => rfl
    rw [List.cons_append, e1, e1, bind_assoc]
    congr 1
    funext f
    cases f with
    | next => exact execs_app env as bs
    | ret v => simp only [pure_bind]
    | brk => simp only [pure_bind]
    | cont => simp only [pure_bind]
theorem fs_app {g : List Stmt} (h1 : PSs X g (tS (cfg X) W s)) (h2 : PSs X rest (tS (cfg X) W t)) : PSs X (g ++ rest) (tS (cfg X) W (sSeq s t)) := by
  refine ⟨fun pins s0 σ H D I ⟨ρ, env, ro, w, hS, hE, q⟩ => ?_⟩
  rw [execs_app]
  refine wpAny_bind (thn (h1.run pins s0 σ H { D with nx := fun σ' H' => tS (cfg X) W t D σ' H' } I ⟨ρ, env, ro, w, hS, hE, ?_⟩) fun f s1 q1 => ?_)
  · unfold sSeq at q
    cases e : s env ro w with
    | go fl env1 w1 =>
      rw [e] at q
      cases fl with
      | nx => exact fun σ1 ρ1 H1 x1 s1 e1 => ⟨ρ1, env1, ro, w1, s1, e1, AfterS.ext x1 q⟩
      | rt d => exact q
      | bk => exact q
      | ct => exact q
    | exn c ns xs env1 w1 =>
      rw [e] at q
      exact q
    | no =>
      rw [e] at q
      exact q
  · cases f with
    | next =>
      obtain ⟨σ', H', I', q'⟩ := q1
      exact h2.run pins s1 σ' H' D I' q'
    | ret v => exact wpAny_pure q1
    | brk => exact wpAny_pure q1
    | cont => exact wpAny_pure q1
end
section
variable {ro w : List D} {env : Env} {s : SF}
theorem x_tell {env' : Env} {w' w2 : List D} (h : s env ro w = .go .nx env' w') (hc : cutW ro.length w.length w' = some w2) : sTell s env ro w = .go .nx (tellE ro.length w.length w' env') w2 := by
  unfold sTell
  rw [h]
  simp only [hc]
end
end Fx
/-! Own classes: fields, methods, new instances. -/
namespace Fx
open PySem PySem.Spec L2
/-! ### fields -/
def fieldV : List Str → List D → Str → Option D
  | n :: ns, x :: xs, f => if f = n then some x else fieldV ns xs f
  | _, _, _ => none
def putI : List Str → List D → Str → D → List Str × List D
  | n :: ns, x :: xs, f, d => if n = f then (n :: ns, d :: xs) else (n :: (putI ns xs f d).1, x :: (putI ns xs f d).2)
  | _, _, f, d => ([f], [d])
/-- what is known of a class: where it stands, which names are no attributes of it -/
structure ClX (K : PySem.W.Frag) (mg : Str → Option Value) (c : Str) (fs : List Str) : Prop where
  ex : ∃ A, mg c = some (.ref A) ∧ Cls K A ∧ ∀ f ∈ fs, NoAttr K A f
def gFld (c f : Str) (d : D) : M D := match d with
  | .ins c' ns xs => if c' = c then (match fieldV ns xs f with
    | some x => M.pure x
    | none => M.no) else M.no
  | _ => M.no
def cFld (c f : Str) (fo : EF) : EF := fun env => M.bind (fo env) fun o => M.bind (M.see o) fun o => gFld c f o
def gSetF (c f : Str) (v o : D) : M D := match o with
  | .ref n => fun ro w => if n < ro.length then .no else match w[n - ro.length]? with
    | some (.ins c' ns xs) => if c' = c ∧ ns.length < 1000 then .ok .non (w.set (n - ro.length) (.ins c (putI ns xs f v).1 (putI ns xs f v).2)) else .no
    | _ => .no
  | _ => M.no
def sSetF (c f : Str) (fo fv : EF) : SF := sLift fv fun v => sLift fo fun o => sLift (fun _ => gSetF c f v o) fun _ env _ w => .go .nx env w
section
variable {C : Cfg} {ρ : Zn} {H : Hp} {ro w : List D}
theorem fieldV_rep {f : Str} {d : D} : ∀ {fs : List (Str × V)} {xs : List D}, fieldV (fs.map (·.1)) xs f = some d → Reps C ρ H xs (fs.map (·.2)) → ∃ v, fs.lookup f = some v ∧ Rep C ρ H d v
  | [], xs, h, _ => by cases xs <;> cases h
  | p :: fs, [], h, _ => by cases h
  | p :: fs, x :: xs, h, ⟨v, r, e, h1, h2⟩ => by
    simp only [List.map_cons, List.cons.injEq] at e
    obtain ⟨e1, e2⟩ := e
    subst e1 e2
    simp only [List.map_cons, fieldV] at h
    obtain ⟨k, u⟩ := p
    by_cases c : f = k
    · rw [if_pos c] at h
      cases h
      exact ⟨u, by rw [List.lookup_cons, beq_iff_eq.mpr c], h1⟩
    · rw [if_neg c] at h
      obtain ⟨v, g1, g2⟩ := fieldV_rep h h2
      exact ⟨v, by rw [List.lookup_cons, beq_eq_false_iff_ne.mpr c]; exact g1, g2⟩
theorem putI_rep {f : Str} {d : D} {v : V} (hd : Rep C ρ H d v) : ∀ {fs : List (Str × V)} {xs : List D}, Reps C ρ H xs (fs.map (·.2)) → (putI (fs.map (·.1)) xs f d).1 = (putF f v fs).map (·.1) ∧ Reps C ρ H (putI (fs.map (·.1)) xs f d).2 ((putF f v fs).map (·.2))
  | [], xs, h => ⟨by cases xs <;> rfl, by
    have e : putI ([].map fun (p : Str × V) => p.1) xs f d = ([f], [d]) := by cases xs <;> rfl
    rw [e]
    exact Reps.one hd⟩
  | p :: fs, [], h => by simp [Reps] at h
  | p :: fs, x :: xs, ⟨u, r, e, h1, h2⟩ => by
    simp only [List.map_cons, List.cons.injEq] at e
    obtain ⟨e1, e2⟩ := e
    subst e1 e2
    obtain ⟨k, u⟩ := p
    have eF : putF f v ((k, u) :: fs) = if k = f then (k, v) :: fs else (k, u) :: putF f v fs := rfl
    have eI : putI (((k, u) :: fs).map (·.1)) (x :: xs) f d = if k = f then (k :: fs.map (·.1), d :: xs) else (k :: (putI (fs.map (·.1)) xs f d).1, x :: (putI (fs.map (·.1)) xs f d).2) := rfl
    rw [eF, eI]
    by_cases c : k = f
    · rw [if_pos c, if_pos c]
      exact ⟨rfl, v, _, rfl, hd, h2⟩
    · rw [if_neg c, if_neg c]
      obtain ⟨g1, g2⟩ := putI_rep (f := f) hd h2
      exact ⟨by simp only [List.map_cons, g1], u, _, rfl, h1, g2⟩
theorem Seen.ins {c : Str} {ns : List Str} {xs : List D} {v : V} (h : Seen C ρ H (.ins c ns xs) v) : ∃ a A dx fs, v = .ref a ∧ C.mg c = some (.ref A) ∧ H a = some (.ins A dx fs) ∧ ns = fs.map (·.1) ∧ Reps C ρ H xs (fs.map (·.2)) := by
  rcases h with ⟨a, A, dx, fs, e, m, n, h, k, r⟩ | ⟨a, e, A, dx, fs, m, h, k, r⟩
  · exact ⟨a, A, dx, fs, e, m, h, k, r⟩
  · exact ⟨a, A, dx, fs, e, m, h, k, r⟩
end
section
variable {X : Cx} {W : WX} {pos pos' apos : Pos} {o e : Expr} {es : List Expr} {c f m x : Str} {fs : List Str} {fo fv : EF}
theorem pf_fld (T : ClX X.K X.mg c fs) (ho : PE X o (tE (cfg X) W fo)) (hf : f ∈ fs := by decide) (hb : attributeBase o f X.env (eval o X.env) = eval o X.env := by rfl) : PE X (.Attribute o f pos) (tE (cfg X) W (cFld c f fo)) := pe_imp (pe_fld ho hb) fun σ H Q ⟨ρ, env, ro, w, hS, hE, q⟩ => by
  refine tR_seq hS hE q fun d w1 v ρ1 H1 x1 s1 r1 q1 => ?_
  have sd := seen_of s1 r1
  have q2 : AfterR (cfg X) (Rep (cfg X)) W σ ρ1 H1 ro (gFld c f (see ro w1 d) ro w1) Q := q1
  generalize see ro w1 d = d' at sd q2
  unfold gFld at q2
  cases d' with
  | ins c' ns xs =>
    simp only at q2
    by_cases cc : c' = c
    · subst cc
      rw [if_pos rfl] at q2
      cases ef : fieldV ns xs f with
      | none => rw [ef] at q2; exact (show False from q2).elim
      | some y =>
        rw [ef] at q2
        obtain ⟨a, A, dx, fl, rfl, hm, ha, rfl, r⟩ := sd.ins
        obtain ⟨v', l, rv⟩ := fieldV_rep ef r
        obtain ⟨A', hm', cl, na⟩ := T.ex
        cases hm.symm.trans hm'
        exact ⟨a, A, dx, fl, v', rfl, ha, cl, na f hf, l, ok_same s1 rv q2⟩
    · rw [if_neg cc] at q2
      exact (show False from q2).elim
  | _ => exact (show False from q2).elim
theorem f_setF (T : ClX X.K X.mg c fs) (ho : PE X o (tE (cfg X) W fo)) (hv : PE X e (tE (cfg X) W fv)) (hf : f ∈ fs := by decide) (hs : swapsWith e (some (.Attribute o f pos')) pos.line X.env = pure false := by rfl) : PS X (.Assign [.Attribute o f pos'] e pos) (tS (cfg X) W (sSetF c f fo fv)) := ps_imp (ps_fld ho hv hs) fun D σ H ⟨ρ, env, ro, w, hS, hE, q⟩ => by
  refine tS_seq hS hE q fun dv w1 v ρ1 H1 x1 s1 e1 r1 q1 => ?_
  refine tS_seq s1 e1 q1 fun d w2 vo ρ2 H2 x2 s2 e2 r2 q2 => ?_
  have rv := Rep.ext x2 dv r1
  have q3 : AfterR (cfg X) (Rep (cfg X)) W σ ρ2 H2 ro (gSetF c f dv d ro w2) (fun _ H4 => D.nx σ H4) :=
    lift_after (f := fun _ => gSetF c f dv d) e2 q2 fun z w4 v4 ρ4 H4 x4 s4 e4 r4 q4 => q4 σ ρ4 H4 .refl s4 e4
  unfold gSetF at q3
  cases d with
  | ref n =>
    simp only at q3
    by_cases c1 : n < ro.length
    · rw [if_pos c1] at q3
      exact (show False from q3).elim
    · rw [if_neg c1] at q3
      obtain ⟨a, ha, rfl⟩ := r2
      cases eo : w2[n - ro.length]? with
      | none => rw [eo] at q3; exact (show False from q3).elim
      | some d0 =>
        rw [eo] at q3
        have hn : (ro ++ w2)[n]? = some d0 := by
          rw [List.getElem?_append_right (by omega)]
          exact eo
        cases d0 with
        | ins c' ns xs =>
          simp only at q3
          by_cases c2 : c' = c ∧ ns.length < 1000
          · rw [if_pos c2] at q3
            obtain ⟨rfl, hl⟩ := c2
            obtain ⟨A, dx, fl, hm, hH, rfl, r⟩ := s2.obj n a _ ha hn
            obtain ⟨A', hm', cl, na⟩ := T.ex
            cases hm.symm.trans hm'
            obtain ⟨g1, g2⟩ := putI_rep (f := f) rv r
            refine ⟨a, A, dx, fl, rfl, hH, cl, na f hf, by simpa using hl, ?_⟩
            exact ok_put (o := .ins A dx (putF f v fl)) (d := .ins c' (putI (fl.map (·.1)) xs f dv).1 (putI (fl.map (·.1)) xs f dv).2) (e := .non) (v := .non) s2 c1 ha (fun H' x' e' => ⟨A, dx, putF f v fl, hm, e', g1, Reps.ext x' _ g2⟩) rfl q3
          · rw [if_neg c2] at q3
            exact (show False from q3).elim
        | _ => exact (show False from q3).elim
  | _ => exact (show False from q3).elim
end
/-! ### what is called -/
/-- a call of what stands at A does what g says -/
def CallsTo (X : Cx) (A : Addr) (g : List D → M D) (np : Nat) : Prop := ∀ (pins : List (Addr × Obj)) (s : Shared) (σ : L2.St) (H : Hp) (us : List Value) (vs : List V) (Q : VK) (E : XK), PassesAt (L2.CX X.prog X.w) X σ E → Inv X pins σ H s → Vals vs us →
  spF (cfg X) g np vs H Q E → wpAny (model X.prog X.w) X.A (call (.ref A) us) (EP X pins σ Q) X.xe s
structure MakeOk (P : Program) (w : World) (K : PySem.W.Frag) (mg : Str → Option Value) (base : Heap) (n : Nat) (c : Str) (g : List D → M D) (np : Nat) : Prop where
  ex : ∃ A, mg c = some (.ref A) ∧ PySem.W.keepIn K (.ref A) = true ∧ ∀ X : Cx, X.prog = P → X.w = w → X.K = K → X.mg = mg → X.base = base → Room n X.A → CallsTo X A g np
abbrev MakeX (X : Cx) (n : Nat) (x : Str) (g : List D → M D) (np : Nat) : Prop := MakeOk X.prog X.w X.K X.mg X.base n x g np
/-- a method m of the class c -/
structure MethOk (P : Program) (w : World) (K : PySem.W.Frag) (mg : Str → Option Value) (base : Heap) (n : Nat) (c m : Str) (g : List D → M D) (np : Nat) : Prop where
  ex : ∃ A f, mg c = some (.ref A) ∧ Cls K A ∧ Meth K A m f ∧ ∀ X : Cx, X.prog = P → X.w = w → X.K = K → X.mg = mg → X.base = base → Room n X.A → CallsTo X f g np
abbrev MethX (X : Cx) (n : Nat) (c m : Str) (g : List D → M D) (np : Nat) : Prop := MethOk X.prog X.w X.K X.mg X.base n c m g np
/-- a new instance, its __init__ called -/
def mkD (c : Str) (g : List D → M D) : List D → M D := fun ds ro w => match g (.ref (ro.length + w.length) :: ds) ro (w ++ [.ins c [] []]) with
  | .ok .non w' => .ok (.ref (ro.length + w.length)) w'
  | .exn c ns xs w' => .exn c ns xs w'
  | _ => .no
def cMeth (c m : Str) (g : List D → M D) (fo : EF) (fs : Env → M (List D)) : EF := fun env => M.bind (fo env) fun o => M.bind (M.see o) fun o' => match o' with
  | .ins c' ns _ => if c' = c ∧ m ∉ ns then M.bind (fs env) fun ds => g (o :: ds) else M.no
  | _ => M.no
section
variable {X : Cx} {W : WX} {pos p apos : Pos} {o e : Expr} {es : List Expr} {c m x : Str} {fo : EF} {fs : Env → M (List D)} {g : List D → M D} {n np : Nat}
theorem pf_make (F : MakeX X n x g np) (hr : Room n X.A) (hx : PassW X W) (hg : Gl X x) (ha : PA X (e :: es) (tA (cfg X) W fs)) (hdb : (x == ("__debug__" : Str)) = false := by decide)
    (he : starEach (e :: es) X.env = (false, eval e X.env) :: starEach es X.env := by rfl) (hpl : (backTo pos (starEach es X.env)).any (·.1) = false := by rfl) : PE X (.Call (.Name x p) (e :: es) [] pos) (tE (cfg X) W (cCall (fun ds => if ds.length = np then g ds else M.no) fs)) := by
  obtain ⟨A, hm, hk, to⟩ := F.ex
  have to := to X rfl rfl rfl rfl rfl hr
  refine ⟨fun pins s σ H Q I ⟨ρ, env, ro, w, hS, hE, q⟩ => wpAny_Call_Name_kw (ld_glob I hg hm ?_ hdb)⟩
  have z : tA (cfg X) W fs σ H fun vs H1 => spF (cfg X) g np vs H1 Q (WE W σ) := by
    refine tR_seq hS hE q fun ds w1 vs ρ1 H1 x1 s1 r1 q1 => ?_
    by_cases c : ds.length = np
    · rw [if_pos c] at q1
      exact ⟨ρ1, ds, ro, w1, by rw [← r1.len]; exact c, s1, r1, q1.sig⟩
    · rw [if_neg c] at q1
      exact (show False from q1).elim
  exact PySem.W.callWith_K (h₀ := X.base) I.ok.mod.kin hk (thn (ha.run pos pins s σ H _ I z) fun us s1 ⟨vs, H1, I1, r, q1⟩ => ⟨I1.kIn, to pins s1 σ H1 us vs Q (WE W σ) (hx σ) I1 r q1⟩) he hpl
theorem meth_read {Q : VK} {σ : L2.St} {H : Hp} {A : Addr} (hm : X.mg c = some (.ref A)) (q : tE (cfg X) W (cMeth c m (fun ds : List D => if ds.length = np then g ds else M.no) fo fs) σ H Q) : tE (cfg X) W fo σ H fun x H1 => ∃ a dx fl, x = .ref a ∧ H1 a = some (.ins A dx fl) ∧ fl.lookup m = none ∧
    tA (cfg X) W fs σ H1 fun vs H2 => spF (cfg X) g np (x :: vs) H2 Q (WE W σ) := by
  obtain ⟨ρ, env, ro, w, hS, hE, q⟩ := q
  refine tR_seq hS hE q fun d w1 v ρ1 H1 x1 s1 r1 q1 => ?_
  have sd := seen_of s1 r1
  replace q1 : AfterR (cfg X) (Rep (cfg X)) W σ ρ1 H1 ro ((match see ro w1 d with
    | .ins c' ns _ => if c' = c ∧ m ∉ ns then M.bind (fs env) fun ds => (fun ds : List D => if ds.length = np then g ds else M.no) (d :: ds) else M.no
    | _ => M.no) ro w1) Q := q1
  generalize see ro w1 d = d' at sd q1
  cases d' with
  | ins c' ns xs =>
    simp only at q1
    by_cases cc : c' = c ∧ m ∉ ns
    · rw [if_pos cc] at q1
      obtain ⟨rfl, nm⟩ := cc
      obtain ⟨a, A', dx, fl, rfl, hm', ha, rfl, r⟩ := sd.ins
      cases hm.symm.trans hm'
      refine ⟨a, dx, fl, rfl, ha, ?_, ?_⟩
      · cases e : fl.lookup m with
        | none => rfl
        | some z =>
          exfalso
          apply nm
          clear r ha sd q1 nm
          induction fl with
          | nil => cases e
          | cons p fl ih =>
            rw [List.lookup_cons] at e
            by_cases k : m = p.1
            · rw [k]
              exact List.mem_cons_self
            · rw [beq_eq_false_iff_ne.mpr k] at e
              exact List.mem_cons_of_mem _ (ih e)
      · refine tR_seq s1 (hE.ext x1) q1 fun ds w2 vs ρ2 H2 x2 s2 r2 q2 => ?_
        have q3 : AfterR (cfg X) (Rep (cfg X)) W σ ρ2 H2 ro ((if (d :: ds).length = np then g (d :: ds) else M.no) ro w2) Q := q2
        by_cases cl : (d :: ds).length = np
        · rw [if_pos cl] at q3
          have r3 : Reps (cfg X) ρ2 H2 (d :: ds) (.ref a :: vs) := ⟨_, _, rfl, Rep.ext x2 d r1, r2⟩
          exact ⟨ρ2, d :: ds, ro, w2, by rw [← r3.len]; exact cl, s2, r3, q3.sig⟩
        · rw [if_neg cl] at q3
          exact (show False from q3).elim
    · rw [if_neg cc] at q1
      exact (show False from q1).elim
  | _ => exact (show False from q1).elim
theorem pf_meth0 {pl : Sem Bool} (F : MethX X n c m g np) (hr : Room n X.A) (hx : PassW X W) (ho : PE X o (tE (cfg X) W fo))
    (ht : eval (.Call (.Attribute o m apos) [] [] pos) X.env = (do let ov ← eval o X.env; standAt apos.atName; let (f, first) ← holding [ov] (getMethod ov m pl); callWith pos f first (backTo pos (starEach [] X.env)) (backToKw pos (keywordEach [] X.env))) := by rfl) :
    PE X (.Call (.Attribute o m apos) [] [] pos) (tE (cfg X) W (cMeth c m (fun ds => if ds.length = np then g ds else M.no) fo (cArgs []))) := by
  obtain ⟨A, f, hm, cl, mt, to⟩ := F.ex
  have to := to X rfl rfl rfl rfl rfl hr
  refine ⟨fun pins s σ H Q I q => PySem.W.methodCall_KW (pl := pl) (thn (ho.run pins s σ H _ I (meth_read hm q)) fun u s1 ⟨x, H1, I1, rx, a, dx, fl, ex, ea, l, q1⟩ => ?_) ht⟩
  subst ex
  obtain rfl : u = Value.ref a := rx
  obtain ⟨ρ, env, ro, w, hS, hE, q2⟩ := q1
  refine getmeth_ok I1 ea cl mt l (PySem.W.callWith_K0 (first := [.ref a]) I1.kIn mt.kp ?_)
  exact to pins s1 σ H1 [.ref a] [.ref a] Q (WE W σ) (hx σ) I1 (.cons rfl .nil) (q2 [] ρ H1 .refl hS rfl)
end
/-! ### what is called does what the def says -/
section
variable {X : Cx} {g : List D → M D} {np : Nat}
theorem after_pure {C : Cfg} {W : WX} {σ : L2.St} {ρ : Zn} {H : Hp} {ro v ds : List D} {Q : VK} (hS : RepS C ρ H (ro ++ v)) (q : AfterR C (Rep C) W σ ρ H ro (pureD g ds ro v) Q) : AfterR C (Rep C) W σ ρ H (ro ++ v) (g ds (ro ++ v) []) Q := by
  have hlen : ρ.r.length = (ro ++ v).length := hS.len
  have back : ∀ {ρ' : Zn} {H' : Hp} {w' : List D}, Ext ρ ρ' H H' → RepS C ρ' H' ((ro ++ v) ++ w') → Ext ρ (ρ'.take (ro ++ v).length) H H' ∧ RepS C (ρ'.take (ro ++ v).length) H' (ro ++ v) := by
    intro ρ' H' w' x s
    have hl : w'.length ≥ ([] : List D).length := Nat.zero_le _
    obtain ⟨a, b⟩ := tell_back (ro := ro ++ v) (w := []) (w' := w') (w2 := []) (by rw [List.append_nil]; exact hS) (by unfold cutW; rw [if_pos ⟨Nat.zero_le _, rfl⟩]; rfl) x s
    rw [List.append_nil] at b
    exact ⟨a, b⟩
  unfold pureD at q
  cases e : g ds (ro ++ v) [] with
  | no =>
    simp only [e] at q
    exact q
  | ok d w' =>
    simp only [e] at q
    cases et : D.tell (told (ro ++ v).length w' 4) d with
    | none =>
      simp only [et] at q
      exact (show False from q).elim
    | some d' =>
      simp only [et] at q
      intro u ρ' H' x s r
      obtain ⟨x2, s2⟩ := back x s
      exact q u _ H' x2 s2 (Rep.tell (told_ok s 4) d et r)
  | exn c ns xs w' =>
    simp only [e] at q
    cases et : D.tells (told (ro ++ v).length w' 4) xs with
    | none =>
      simp only [et] at q
      exact (show False from q).elim
    | some xs' =>
      simp only [et] at q
      intro cls dx ρ' H' x s r
      obtain ⟨x2, s2⟩ := back x s
      exact q cls dx _ H' x2 s2 (RepX.tell (told_ok s 4) et r)
theorem CallsTo.pure {A : Addr} (h : CallsTo X A g np) : CallsTo X A (pureD g) np := by
  intro pins s σ H us vs Q E hx I r ⟨ρ, ds, ro, w, hl, hS, hR, q⟩
  exact h pins s σ H us vs Q E hx I r ⟨ρ, ds, ro ++ w, [], hl, by rw [List.append_nil]; exact hS, hR, after_pure hS q⟩
theorem calls_no {A : Addr} : CallsTo X A (fun _ => M.no) np := by
  rintro pins s σ H us vs Q E hx I r ⟨ρ, ds, ro, w, hl, hS, hR, q⟩
  exact (show False from q).elim
theorem CallsTo.fn {f : Addr} {fd : FuncData} {ps : List Str} {k : Nat} (F : FnOk X.prog X.w X.K X.mg X.base (L2.CX X.prog X.w) k f fd ps (spF (cfg X) g np)) (hb : Binds X.K fd ps []) (hr : Room k X.A) : CallsTo X f g np :=
  fun pins s σ H us vs Q E hx I r q => run_fnS (E := fun _ => E) F hr hb hx I r q
theorem run_mk {f A : Addr} {fd : FuncData} {ps : List Str} {k : Nat} {sp : Sp} {E : XK} {pins : List (Addr × Obj)} {σ : L2.St} {H : Hp} {s : Shared} {Q : VK} {us : List Value} {vs : List V} (M : Mk X.K A f) (F : FnOk X.prog X.w X.K X.mg X.base (L2.CX X.prog X.w) k f fd ps sp) (hr : Room (k + 1) X.A) (hb : Binds X.K fd ps [])
    (hx : PassesAt (L2.CX X.prog X.w) X σ E) (I : Inv X pins σ H s) (r : Vals vs us)
    (h : ∀ x dx, H x = none → H dx = none → dx ≠ x → sp (.ref x :: vs) (upd (upd H dx (.own x)) x (.ins A dx [])) (fun v H2 => v = .non ∧ Q (.ref x) H2) E) :
    wpAny (model X.prog X.w) X.A (call (.ref A) us) (EP X pins σ Q) X.xe s := by
  have I2 := Inv.made (C := A) I
  have q0 := h (s.heap.objs.size + 1) s.heap.objs.size (I.hok.fresh (Nat.le_succ _)) (I.hok.fresh (Nat.le_refl _)) (Nat.ne_of_lt (Nat.lt_succ_self _))
  have r2 : Vals (V.ref (s.heap.objs.size + 1) :: vs) (Value.ref (s.heap.objs.size + 1) :: us) := .cons rfl r
  have hl : (Value.ref (s.heap.objs.size + 1) :: us).length = ps.length := r2.length.symm.trans (F.len _ _ _ _ q0)
  have bt := hb _ (Value.ref (s.heap.objs.size + 1) :: us) I2.kIn (by rw [List.append_nil]; exact hl)
  rw [List.append_nil] at bt
  have rn := F.run _ X.stack _ _ ⟨Value.ref (s.heap.objs.size + 1) :: us, []⟩ (Value.ref (s.heap.objs.size + 1) :: us) _ _ E (hr.make A us []) (I2.env0.make A us []) bt r2 q0
  refine wpAny_call (make_map (f := f) I.kIn M.makes M.init (beq_iff_eq.mp M.fn) (codeAny_mono rn fun y s' hq => ?_))
  cases y with
  | error e => exact hx pins _ _ e s' I2 hq
  | ok fl =>
    cases fl with
    | ret u =>
      obtain ⟨v, H', I3, rv, ev, q3⟩ := I2.after hq
      subst ev
      exact ⟨rv, ⟨V.ref (s.heap.objs.size + 1), H', I3, rfl, q3⟩⟩
    | next => exact False.elim hq
    | brk => exact False.elim hq
    | cont => exact False.elim hq
theorem CallsTo.mk {f A : Addr} {fd : FuncData} {ps : List Str} {k : Nat} {c : Str} (hm : X.mg c = some (.ref A)) (M : Mk X.K A f) (F : FnOk X.prog X.w X.K X.mg X.base (L2.CX X.prog X.w) k f fd ps (spF (cfg X) g (np + 1))) (hb : Binds X.K fd ps []) (hr : Room (k + 1) X.A) : CallsTo X A (mkD c g) np := by
  rintro pins s σ H us vs Q E hx I r ⟨ρ, ds, ro, w, hl, hS, hR, q⟩
  refine run_mk M F hr hb hx I r fun x dx hxn hdn ne => ?_
  have x1 : Ext ρ ρ H (upd H dx (.own x)) := ext_new hS hdn
  have s1 : RepS (cfg X) ρ (upd H dx (.own x)) (ro ++ w) := reps_new hS hdn
  have hx1 : (upd H dx (.own x)) x = none := by rw [upd_ne (Ne.symm ne)]; exact hxn
  have x2 : Ext ρ ⟨ρ.r ++ [x], ρ.h⟩ (upd H dx (.own x)) (upd (upd H dx (.own x)) x (.ins A dx [])) := ext_mut s1 hx1
  have s2 : RepS (cfg X) ⟨ρ.r ++ [x], ρ.h⟩ (upd (upd H dx (.own x)) x (.ins A dx [])) (ro ++ (w ++ [.ins c [] []])) := by
    rw [← List.append_assoc]
    exact reps_mut s1 hx1 ⟨A, dx, [], hm, upd_same, rfl, rfl⟩
  have e : ρ.r.length = ro.length + w.length := by rw [hS.len, List.length_append]
  have rx : Rep (cfg X) ⟨ρ.r ++ [x], ρ.h⟩ (upd (upd H dx (.own x)) x (.ins A dx [])) (.ref (ro.length + w.length)) (.ref x) := ⟨x, by
    show (ρ.r ++ [x])[_]? = _
    rw [← e, List.getElem?_append_right (Nat.le_refl _), Nat.sub_self]
    rfl, rfl⟩
  have x3 := x1.trans x2
  refine ⟨_, .ref (ro.length + w.length) :: ds, ro, w ++ [.ins c [] []], by simp [hl], s2, ⟨_, _, rfl, rx, Reps.ext x3 ds hR⟩, ?_⟩
  unfold mkD at q
  cases eo : g (.ref (ro.length + w.length) :: ds) ro (w ++ [.ins c [] []]) with
  | no => rw [eo] at q; exact (show False from q).elim
  | exn c' ns xs w' =>
    rw [eo] at q
    exact fun cls dx' ρ' H' y s r => q cls dx' ρ' H' (x3.trans y) s r
  | ok d w' =>
    rw [eo] at q
    cases d with
    | non =>
      intro v ρ' H' y s rv
      exact ⟨rv, q (.ref x) ρ' H' (x3.trans y) s (Rep.ext y (.ref (ro.length + w.length)) rx)⟩
    | _ => exact (show False from q).elim
end
section
variable {P : Program} {w : World} {K : PySem.W.Frag} {mg : Str → Option Value} {base : Heap} {n np : Nat} {c m : Str} {g : List D → M D}
theorem make_no {A : Addr} (hm : mg c = some (.ref A)) (hk : PySem.W.keepIn K (.ref A) = true) : MakeOk P w K mg base n c (fun _ => M.no) np := ⟨A, hm, hk, fun X _ _ _ _ _ _ => calls_no⟩
theorem make_ok {A f : Addr} {fd : FuncData} {ps : List Str} (hm : mg c = some (.ref A)) (M : Mk K A f) (F : FnOk P w K mg base (L2.CX P w) n f fd ps (spF ⟨K, mg, w⟩ g (np + 1))) (hb : Binds K fd ps []) : MakeOk P w K mg base (n + 1) c (mkD c g) np :=
  ⟨A, hm, M.kp, fun X e1 e2 e3 e4 e5 hr => by
    subst e1 e2 e3 e4 e5
    exact CallsTo.mk hm M F hb hr⟩
theorem meth_no {A f : Addr} (hm : mg c = some (.ref A)) (cl : Cls K A) (mt : Meth K A m f) : MethOk P w K mg base n c m (fun _ => M.no) np := ⟨A, f, hm, cl, mt, fun X _ _ _ _ _ _ => calls_no⟩
theorem meth_ok {A f : Addr} {fd : FuncData} {ps : List Str} (hm : mg c = some (.ref A)) (cl : Cls K A) (mt : Meth K A m f) (F : FnOk P w K mg base (L2.CX P w) n f fd ps (spF ⟨K, mg, w⟩ g np)) (hb : Binds K fd ps []) : MethOk P w K mg base n c m g np :=
  ⟨A, f, hm, cl, mt, fun X e1 e2 e3 e4 e5 hr => by
    subst e1 e2 e3 e4 e5
    exact CallsTo.fn F hb hr⟩
theorem make_pure (h : MakeOk P w K mg base n c g np) : MakeOk P w K mg base n c (pureD g) np := by
  obtain ⟨A, h1, h2, h3⟩ := h.ex
  exact ⟨A, h1, h2, fun X e1 e2 e3 e4 e5 hr => (h3 X e1 e2 e3 e4 e5 hr).pure⟩
theorem meth_pure (h : MethOk P w K mg base n c m g np) : MethOk P w K mg base n c m (pureD g) np := by
  obtain ⟨A, f, h1, h2, h3, h4⟩ := h.ex
  exact ⟨A, f, h1, h2, h3, fun X e1 e2 e3 e4 e5 hr => (h4 X e1 e2 e3 e4 e5 hr).pure⟩
end
/-! ### what they give -/
section
variable {ro w : List D} {env : Env} {fo fv : EF} {fs : Env → M (List D)} {c f m : Str} {g : List D → M D}
@[simp] theorem x_fld : cFld c f fo env ro w = (fo env ro w).an fun d w1 => gFld c f (see ro w1 d) ro w1 := by
  show M.bind (fo env) _ ro w = _
  simp
theorem fld_ins {ns : List Str} {xs : List D} {x : D} (h : fieldV ns xs f = some x) : gFld c f (.ins c ns xs) ro w = .ok x w := by
  unfold gFld
  simp only [if_pos, h]
  rfl
@[simp] theorem x_setF : sSetF c f fo fv env ro w = (fv env ro w).st env fun v w1 => (fo env ro w1).st env fun o w2 => (gSetF c f v o ro w2).st env fun _ w3 => .go .nx env w3 := by
  refine x_lift.trans (congrArg _ ?_)
  funext v w1
  refine x_lift.trans (congrArg _ ?_)
  funext o w2
  exact x_lift
theorem setF_at {v : D} {n : Nat} {ns : List Str} {xs : List D} (hn : ¬ n < ro.length) (h : w[n - ro.length]? = some (.ins c ns xs)) (hl : ns.length < 1000) : gSetF c f v (.ref n) ro w = .ok .non (w.set (n - ro.length) (.ins c (putI ns xs f v).1 (putI ns xs f v).2)) := by
  unfold gSetF
  simp [hn, h, hl]
theorem x_meth {ns : List Str} {xs : List D} {o : D} {w1 : List D} (h : fo env ro w = .ok o w1) (ho : see ro w1 o = .ins c ns xs) (hm : m ∉ ns) : cMeth c m g fo fs env ro w = (fs env ro w1).an fun ds w2 => g (o :: ds) ro w2 := by
  show M.bind (fo env) _ ro w = _
  rw [x_bind, h, an_ok]
  simp [ho, hm]
end
end Fx
/-! A constant table; what a suite returns; a < b < c; bits; x, y = e. -/
namespace Fx
open PySem PySem.Spec L2
/-! ### a constant dict with text keys -/
def KD (C : Cfg) (d : D) (v : V) : Prop := ∀ ρ H, Rep C ρ H d v
structure TabK (C : Cfg) (x : Str) (rows : List (Str × D)) : Prop where
  ex : ∃ p, C.mg x = some (.ref p) ∧ ∀ q ∈ rows, ∃ v, KDct C.K C.w p q.1 v ∧ KD C q.2 v
def tabV : List (Str × D) → Str → Option D
  | [], _ => none
  | q :: r, x => if x = q.1 then some q.2 else tabV r x
def gTab (rows : List (Str × D)) (d : D) : M D := match d with
  | .str x => (match tabV rows x with
    | some v => M.pure v
    | none => M.no)
  | _ => M.no
def cTab (rows : List (Str × D)) (fe : EF) : EF := fun env => M.bind (fe env) fun d => M.bind (M.see d) fun d => gTab rows d
section
variable {X : Cx} {W : WX} {pos pos' : Pos} {a b e o : Expr} {x : Str} {rows : List (Str × D)} {fa fb fc fe : EF} {ta tb tc : Fx.Env → M Bool}
end
section
variable {ro w : List D} {env : Fx.Env} {fe : EF} {rows : List (Str × D)}
@[simp] theorem x_tab : cTab rows fe env ro w = (fe env ro w).an fun d w1 => gTab rows (see ro w1 d) ro w1 := by
  show M.bind (fe env) _ ro w = _
  simp
end
/-! ### what a suite returns -/
section
variable {X : Cx} {P : L2.St → Prop} {W : WX} {C : Cfg} {a b e : Expr} {rest : List Expr} {pos : Pos} {fa fb : EF}
/-- isinstance(e, C) as a value -/
theorem pfp_isT {i : Nat} {cs us : List Str} {sub : Str → Str → Bool} {c' cn en : Str} {A : Addr} {oe : Obj} {cls : Value} {d : Option Addr} {pn : List (Addr × Obj)} {p q1 q2 : Pos} (T : ExT X.K X.mg cs us sub) (hc : c' ∈ cs) (hu : cn ∈ us) (hz : Zc cls d oe) (hf : ∃ vs, oe.data = .fields vs) (hg : Gl (X.suite A ((A, oe) :: pn)) "isinstance") (hm : X.mg "isinstance" = none) (hgc : Gl (X.suite A ((A, oe) :: pn)) cn)
    (hN : X.N[i]? = some en := by rfl) (hv : Vis X.env.scope en := by first | exact Or.inl rfl | exact Or.inr (Or.inl rfl) | exact Or.inr (Or.inr rfl)) (hd : (en == ("__debug__" : Str)) = false := by decide) (hcd : (en == ("__classdict__" : Str)) = false := by decide) (hdc : (cn == ("__debug__" : Str)) = false := by decide)
    (hs1 : starEach [.Name en q1, .Name cn q2] X.env = (false, eval (.Name en q1) X.env) :: starEach [.Name cn q2] X.env := by rfl) (hs2 : starEach [.Name cn q2] X.env = (false, eval (.Name cn q2) X.env) :: starEach [] X.env := by rfl) (hpl : (backTo pos (starEach [.Name cn q2] X.env)).any (·.1) = false := by rfl) :
    PE (X.suite A ((A, oe) :: pn)) (.Call (.Name "isinstance" p) [.Name en q1, .Name cn q2] [] pos) (tEp (Pc X i c' A cls d) (tE C W (cK (.bl (sub c' cn))))) := by
  obtain ⟨C2, h2⟩ := T.na cn hu
  refine ⟨fun pins s σ H Q I ⟨⟨hσ, ⟨B, hB, hcl⟩, hdn⟩, ρ, env, ro, w, hS, hE, q⟩ => ?_⟩
  subst hcl hdn
  have pe := pe_callB (pos := pos) (p := p) (call_isE (a := A) (pn := pn) ((T.ad c' hc).2 B hB) hz hf) hg hm PyProof.Rows.boot_isinstance (pa_cons (pe_var (X := X.suite A ((A, oe) :: pn)) (pos := q1) hN hv hd hcd) (pa_cons (pe_glob (X := X.suite A ((A, oe) :: pn)) (pos := q2) (v := .ref C2) hgc h2 rfl hdc) pa_nil hs2) hs1) (by decide) (by decide) hs1 hpl
  refine pe.run pins s σ H Q I ?_
  exact ⟨.ref A, hσ, .ref C2, .ref C2, sub c' cn, rfl, fun u hu => hu, (T.pr c' hc cn hu B C2 hB h2).2, q (.bl (sub c' cn)) ρ H .refl hS rfl⟩
end
/-! ### a < b < c -/
def cChain (g g' : D → D → M D) (fa fb fc : EF) : EF := fun env => M.bind (fa env) fun a => M.bind (fb env) fun b => M.bind (M.bind (M.see a) fun a' => M.bind (M.see b) fun b' => g a' b') fun z => match z with
  | .bl true => M.bind (fc env) fun c => M.bind (M.see b) fun b' => M.bind (M.see c) fun c' => g' b' c'
  | .bl false => M.pure (.bl false)
  | _ => M.no
section
variable {X : Cx} {W : WX} {C : Cfg} {pos : Pos} {a b c : Expr} {fa fb fc : EF} {op op' : CmpOp} {r r' : R2} {g g' : D → D → M D}
theorem tE_chain (hr : Ok2 C r g) (hr' : Ok2 C r' g') {σ : L2.St} {H : Hp} {Q : VK} (q : tE C W (cChain g g' fa fb fc) σ H Q) : tChain r r' (tE C W fa) (tE C W fb) (tE C W fc) σ H Q := by
  obtain ⟨ρ, env, ro, w, hS, hE, q⟩ := q
  refine tR_seq hS hE q fun da w1 va ρ1 H1 x1 s1 r1 q1 => ?_
  refine tR_seq s1 (hE.ext x1) q1 fun db w2 vb ρ2 H2 x2 s2 r2 q2 => ?_
  have sa := seen_of s2 (Rep.ext x2 da r1)
  have sb := seen_of s2 r2
  refine hr W σ ρ2 H2 ro w2 _ _ va vb _ s2 sa sb ?_
  have q3 : AfterR C (Rep C) W σ ρ2 H2 ro ((g (see ro w2 da) (see ro w2 db) ro w2).an fun z w3 => (match z with
      | .bl true => M.bind (fc env) fun c => M.bind (M.see db) fun b' => M.bind (M.see c) fun c' => g' b' c'
      | .bl false => M.pure (.bl false)
      | _ => M.no) ro w3) Q := by
    have q2' := q2
    simp only [x_bind, x_see, an_ok] at q2' ⊢
    exact q2'
  cases eg : g (see ro w2 da) (see ro w2 db) ro w2 with
  | no => rw [eg] at q3; exact q3
  | exn c ns xs w3 => rw [eg] at q3; exact q3
  | ok z w3 =>
    rw [eg] at q3
    intro v ρ3 H3 x3 s3 r3
    cases z with
    | bl k =>
      refine ⟨k, r3, ?_⟩
      cases k with
      | true =>
        rw [if_pos rfl]
        refine tR_seq s3 (((hE.ext x1).ext x2).ext x3) (AfterR.ext x3 q3) fun dc w4 vc ρ4 H4 x4 s4 r4 q4 => ?_
        exact hr' W σ ρ4 H4 ro w4 _ _ vb vc Q s4 (seen_of s4 (Rep.ext x4 db (Rep.ext x3 db r2))) (seen_of s4 r4) q4
      | false =>
        rw [if_neg (by decide)]
        exact ok_bl s3 (AfterR.ext x3 q3)
    | _ => exact (show False from q3).elim
theorem pf_chain (ho : OpR X (compareOp op) r) (hr : Ok2 C r g) (ho' : OpR X (compareOp op') r') (hr' : Ok2 C r' g') (ha : PE X a (tE C W fa)) (hb : PE X b (tE C W fb)) (hc : PE X c (tE C W fc))
    (hm : lastMarks [op, op'] [b, c] = false := by with_unfolding_all rfl) : PE X (.Compare a [op, op'] [b, c] pos) (tE C W (cChain g g' fa fb fc)) := pe_imp (pe_chain ho ho' ha hb hc hm) fun _ _ _ q => tE_chain hr hr' q
theorem pt_chainF (ho : OpR X (compareOp op) r) (hr : Ok2 C r g) (ho' : OpR X (compareOp op') r') (hr' : Ok2 C r' g') (ha : PE X a (tE C W fa)) (hb : PE X b (tE C W fb)) (hc : PE X c (tE C W fc))
    (hm : lastMarks [op, op'] [b, c] = false := by with_unfolding_all rfl) : PT X (.Compare a [op, op'] [b, c] pos) (tT C W (cTest (cChain g g' fa fb fc))) := pt_imp (pt_chain ho ho' ha hb hc hm) fun σ H Q ⟨ρ, env, ro, w, hS, hE, q⟩ => by
  refine tE_chain hr hr' ⟨ρ, env, ro, w, hS, hE, ?_⟩
  unfold cTest M.bind at q
  cases e : cChain g g' fa fb fc env ro w with
  | ok d w1 =>
    rw [e] at q
    intro v ρ1 H1 x1 s1 r1
    cases d with
    | bl k => exact ⟨k, r1, q k ρ1 H1 x1 s1 rfl⟩
    | _ => exact (show False from q).elim
  | exn c ns xs w1 =>
    rw [e] at q
    exact q
  | no => rw [e] at q; exact q
end
/-! ### bits -/
def gBand (x y : D) : M D := match x, y with
  | .int i, .int j => M.pure (.int (Builtin.bitAnd i j))
  | _, _ => M.no
def gBor (x y : D) : M D := match x, y with
  | .int i, .int j => M.pure (.int (Builtin.bitOr i j))
  | _, _ => M.no
def gShr (x y : D) : M D := match x, y with
  | .int i, .int j => if j = (j.natAbs : Int) then M.pure (.int (i / 2 ^ j.toNat)) else M.no
  | _, _ => M.no
def gShl (x y : D) : M D := match x, y with
  | .int i, .int j => if j = (j.natAbs : Int) ∧ j.natAbs ≤ 1000000 ∧ i.natAbs < 2 ^ 64 then M.pure (.int (i * 2 ^ j.toNat)) else M.no
  | _, _ => M.no
theorem ok2_band {C : Cfg} : Ok2 C (rI0 fun i j => .int (Builtin.bitAnd i j)) gBand := ok2_I0 (k := fun i j => .int (Builtin.bitAnd i j)) (fun d e => by cases d <;> cases e <;> first | exact .inr rfl | exact .inl ⟨_, _, rfl, rfl, rfl⟩) fun _ _ _ _ => rfl
theorem ok2_shr {C : Cfg} : Ok2 C (rI (fun _ j => 0 ≤ j) fun i j => .int (i / 2 ^ j.toNat)) gShr := ok2_I (k := fun i j => .int (i / 2 ^ j.toNat)) (fun d e => by
  cases d <;> cases e <;> first
    | exact .inr rfl
    | (rename_i i j
       by_cases c : j = (j.natAbs : Int)
       · exact .inl ⟨i, j, rfl, rfl, .inl ⟨by omega, by funext ro w; unfold gShr M.pure; simp only [if_pos c]⟩⟩
       · exact .inl ⟨i, j, rfl, rfl, .inr (by funext ro w; unfold gShr M.no; simp only [if_neg c])⟩)) fun _ _ _ _ => rfl
/-! ### x, y = e -/
def sAsg (t : Tg) (f : EF) : SF := sLift f fun d env _ w => match t.put d env with
  | some env' => .go .nx env' w
  | none => .no
section
variable {X : Cx} {W : WX} {pos : Pos} {tg e : Expr} {t : Tg} {f : EF}
theorem f_asg (hg : PG X tg (t.g X.K)) (he : PE X e (tE (cfg X) W f)) (hs : swapsWithSole [tg] e pos.line X.env = pure false := by rfl) (hw : swappedStores [tg] e X.env = pure none := by rfl) (h1 : (assignEach [tg] X.env).map (·.2) = [assign tg X.env] := by rfl) : PS X (.Assign [tg] e pos) (tS (cfg X) W (sAsg t f)) :=
  ps_imp (ps_asg he hg hs hw h1) fun D σ H ⟨ρ, env, ro, w, hS, hE, q⟩ => by
    refine tS_seq hS hE q fun d w1 v ρ1 H1 x1 s1 e1 r1 q1 => ?_
    cases ep : t.put d env with
    | none =>
      have q2 : AfterS (cfg X) W ρ1 H1 ro (match t.put d env with
        | some env' => .go .nx env' w1
        | none => .no) D := q1
      rw [ep] at q2
      exact (show False from q2).elim
    | some env' =>
      have q2 : AfterS (cfg X) W ρ1 H1 ro (match t.put d env with
        | some env' => .go .nx env' w1
        | none => .no) D := q1
      rw [ep] at q2
      exact Tg.ok (C := cfg X) e1 r1 ep fun vs e2 => q2 _ ρ1 H1 .refl s1 e2
end
section
variable {ro w : List D} {env env' : Fx.Env} {f fa fb fc : EF} {t : Tg} {i j : Int} {g g' : D → D → M D}
theorem x_asg {d : D} {w1 : List D} (h : f env ro w = .ok d w1) (hp : t.put d env = some env') : sAsg t f env ro w = .go .nx env' w1 := by
  refine x_lift.trans ?_
  rw [h, st_ok]
  simp only [hp]
@[simp] theorem band_int : gBand (.int i) (.int j) ro w = .ok (.int (Builtin.bitAnd i j)) w := rfl
@[simp] theorem bor_int : gBor (.int i) (.int j) ro w = .ok (.int (Builtin.bitOr i j)) w := rfl
theorem shr_nat {n : Nat} : gShr (.int i) (.int n) ro w = .ok (.int (i / 2 ^ n)) w := by
  unfold gShr
  simp only [Int.natAbs_natCast, if_true, Int.toNat_natCast]
  rfl
@[simp] theorem x_chain : cChain g g' fa fb fc env ro w = (fa env ro w).an fun a w1 => (fb env ro w1).an fun b w2 => (g (see ro w2 a) (see ro w2 b) ro w2).an fun z w3 => match z with
    | .bl true => (fc env ro w3).an fun c w4 => g' (see ro w4 b) (see ro w4 c) ro w4
    | .bl false => .ok (.bl false) w3
    | _ => .no := by
  show M.bind (fa env) _ ro w = _
  simp only [x_bind, x_see, an_ok]
  congr
  funext a w1
  congr
  funext b w2
  congr
  funext z w3
  cases z with
  | bl k =>
    cases k with
    | true =>
      simp only [x_bind]
      congr
    | false => rfl
  | _ => rfl
end
end Fx
/-! Terms and their types: no program in sight. -/
namespace Fx
open PySem PySem.Spec L2
inductive Trm where
  | at (n : Nat) | fn (a : Fm) (t : Trm) | call (s t : Trm) | pair (s t : Trm) | fst (t : Trm) | snd (t : Trm)
  | inl (t : Trm) (b : Fm) | inr (t : Trm) (b : Fm) | cas (s t u : Trm) | abs (t : Trm) (b : Fm)
  deriving DecidableEq
namespace Trm
def toD : Trm → D
  | .at n => .tup [.str "at", .int n]
  | .fn a t => .tup [.str "fun", a.toD, t.toD]
  | .call s t => .tup [.str "call", s.toD, t.toD]
  | .pair s t => .tup [.str "pair", s.toD, t.toD]
  | .fst t => .tup [.str "first", t.toD]
  | .snd t => .tup [.str "second", t.toD]
  | .inl t b => .tup [.str "left", t.toD, b.toD]
  | .inr t b => .tup [.str "right", t.toD, b.toD]
  | .cas s t u => .tup [.str "case", s.toD, t.toD, u.toD]
  | .abs t b => .tup [.str "absurd", t.toD, b.toD]
def tag : Trm → String
  | .at _ => "at" | .fn _ _ => "fun" | .call _ _ => "call" | .pair _ _ => "pair" | .fst _ => "first" | .snd _ => "second"
  | .inl _ _ => "left" | .inr _ _ => "right" | .cas _ _ _ => "case" | .abs _ _ => "absurd"
def ht : Trm → Nat
  | .at _ => 1
  | .fn _ t => t.ht + 1
  | .call s t => max s.ht t.ht + 1
  | .pair s t => max s.ht t.ht + 1
  | .fst t => t.ht + 1
  | .snd t => t.ht + 1
  | .inl t _ => t.ht + 1
  | .inr t _ => t.ht + 1
  | .cas s t u => max s.ht (max t.ht u.ht) + 1
  | .abs t _ => t.ht + 1
theorem ht_pos (t : Trm) : 0 < t.ht := by cases t <;> simp [ht]
/-- the types that are written in it -/
def Over (P : Str → Prop) : Trm → Prop
  | .at _ => True
  | .fn a t => a.Over P ∧ t.Over P
  | .call s t => s.Over P ∧ t.Over P
  | .pair s t => s.Over P ∧ t.Over P
  | .fst t => t.Over P
  | .snd t => t.Over P
  | .inl t b => t.Over P ∧ b.Over P
  | .inr t b => t.Over P ∧ b.Over P
  | .cas s t u => s.Over P ∧ t.Over P ∧ u.Over P
  | .abs t b => t.Over P ∧ b.Over P
def callT : Fm → Fm → Option Fm
  | .imp a b, c => if a = c then some b else none
  | _, _ => none
def fstT : Fm → Option Fm
  | .and a _ => some a
  | _ => none
def sndT : Fm → Option Fm
  | .and _ b => some b
  | _ => none
def orT : Fm → Option (Fm × Fm)
  | .or a b => some (a, b)
  | _ => none
/-- its type -/
def ty : List Fm → Trm → Option Fm
  | Γ, .at n => Γ[n]?
  | Γ, .fn a t => (ty (a :: Γ) t).map (.imp a)
  | Γ, .call s t => (ty Γ s).bind fun φ => (ty Γ t).bind fun ψ => callT φ ψ
  | Γ, .pair s t => (ty Γ s).bind fun φ => (ty Γ t).bind fun ψ => some (.and φ ψ)
  | Γ, .fst t => (ty Γ t).bind fstT
  | Γ, .snd t => (ty Γ t).bind sndT
  | Γ, .inl t b => (ty Γ t).bind fun φ => some (.or φ b)
  | Γ, .inr t b => (ty Γ t).bind fun φ => some (.or b φ)
  | Γ, .cas s t u => (ty Γ s).bind fun φ => (orT φ).bind fun p => (ty (p.1 :: Γ) t).bind fun α => (ty (p.2 :: Γ) u).bind fun β => if α = β then some α else none
  | Γ, .abs t b => (ty Γ t).bind fun φ => if φ = .fal then some b else none
/-- a bound of the heights of all types that are met -/
def tb : Nat → Trm → Nat
  | B, .at _ => B
  | B, .fn a t => 1 + max a.ht (tb (max B a.ht) t)
  | B, .call s t => max (tb B s) (tb B t)
  | B, .pair s t => 1 + max (tb B s) (tb B t)
  | B, .fst t => tb B t
  | B, .snd t => tb B t
  | B, .inl t b => 1 + max (tb B t) b.ht
  | B, .inr t b => 1 + max (tb B t) b.ht
  | B, .cas s t u => max (tb B s) (max (tb (max B (tb B s - 1)) t) (tb (max B (tb B s - 1)) u))
  | B, .abs t b => max (tb B t) b.ht
def CxOk (B : Nat) (P : Str → Prop) (Γ : List Fm) : Prop := ∀ a ∈ Γ, a.ht ≤ B ∧ a.Over P
theorem CxOk.cons {B B' : Nat} {P : Str → Prop} {Γ : List Fm} {a : Fm} (h : CxOk B P Γ) (hB : B ≤ B') (ha : a.ht ≤ B') (ho : a.Over P) : CxOk B' P (a :: Γ) := fun x hx => by
  rcases List.mem_cons.mp hx with e | hx
  · rw [e]
    exact ⟨ha, ho⟩
  · exact ⟨Nat.le_trans (h x hx).1 hB, (h x hx).2⟩
/-! lifted -/
def lift (by' : Nat) : Nat → Trm → Trm
  | k, .at n => .at (if k ≤ n then n + by' else n)
  | k, .fn a t => .fn a (lift by' (k + 1) t)
  | k, .call s t => .call (lift by' k s) (lift by' k t)
  | k, .pair s t => .pair (lift by' k s) (lift by' k t)
  | k, .fst t => .fst (lift by' k t)
  | k, .snd t => .snd (lift by' k t)
  | k, .inl t b => .inl (lift by' k t) b
  | k, .inr t b => .inr (lift by' k t) b
  | k, .cas s t u => .cas (lift by' k s) (lift by' (k + 1) t) (lift by' (k + 1) u)
  | k, .abs t b => .abs (lift by' k t) b
end Trm
end Fx
/-! Terms: a value put in; how great the types are that are met. -/
namespace Fx
open PySem PySem.Spec L2
namespace Trm
/-- the greatest type that is written in it -/
def an : Trm → Nat
  | .at _ => 0
  | .fn a t => max a.ht t.an
  | .call s t => max s.an t.an
  | .pair s t => max s.an t.an
  | .fst t => t.an
  | .snd t => t.an
  | .inl t b => max t.an b.ht
  | .inr t b => max t.an b.ht
  | .cas s t u => max s.an (max t.an u.an)
  | .abs t b => max t.an b.ht
def OkT (N : Nat) (Γ : List Fm) (t : Trm) : Prop := ∀ φ, ty Γ t = some φ → φ.ht ≤ N
/-- all types that are met have at most this height -/
def AllT (N : Nat) : List Fm → Trm → Prop
  | Γ, .at n => OkT N Γ (.at n)
  | Γ, .fn a t => OkT N Γ (.fn a t) ∧ AllT N (a :: Γ) t
  | Γ, .call s t => OkT N Γ (.call s t) ∧ AllT N Γ s ∧ AllT N Γ t
  | Γ, .pair s t => OkT N Γ (.pair s t) ∧ AllT N Γ s ∧ AllT N Γ t
  | Γ, .fst t => OkT N Γ (.fst t) ∧ AllT N Γ t
  | Γ, .snd t => OkT N Γ (.snd t) ∧ AllT N Γ t
  | Γ, .inl t b => OkT N Γ (.inl t b) ∧ AllT N Γ t
  | Γ, .inr t b => OkT N Γ (.inr t b) ∧ AllT N Γ t
  | Γ, .cas s t u => OkT N Γ (.cas s t u) ∧ AllT N Γ s ∧ ∀ p, (ty Γ s).bind orT = some p → AllT N (p.1 :: Γ) t ∧ AllT N (p.2 :: Γ) u
  | Γ, .abs t b => OkT N Γ (.abs t b) ∧ AllT N Γ t
theorem AllT.top {N : Nat} {Γ : List Fm} {t : Trm} (h : AllT N Γ t) : OkT N Γ t := by
  cases t with
  | «at» n => exact h
  | _ => exact h.1
/-! a value put in -/
def putAt (v : Trm) : Nat → Trm → Trm
  | d, .at n => if n = d then lift d 0 v else .at (if d < n then n - 1 else n)
  | d, .fn a t => .fn a (putAt v (d + 1) t)
  | d, .call s t => .call (putAt v d s) (putAt v d t)
  | d, .pair s t => .pair (putAt v d s) (putAt v d t)
  | d, .fst t => .fst (putAt v d t)
  | d, .snd t => .snd (putAt v d t)
  | d, .inl t b => .inl (putAt v d t) b
  | d, .inr t b => .inr (putAt v d t) b
  | d, .cas s t u => .cas (putAt v d s) (putAt v (d + 1) t) (putAt v (d + 1) u)
  | d, .abs t b => .abs (putAt v d t) b
/-! compared -/
theorem nb : ∀ t : Trm, t.toD.nb = true
  | .at n => rfl
  | .fn a t => by simp [toD, D.nb, D.nbs, a.nb, nb t]
  | .call s t => by simp [toD, D.nb, D.nbs, nb s, nb t]
  | .pair s t => by simp [toD, D.nb, D.nbs, nb s, nb t]
  | .fst t => by simp [toD, D.nb, D.nbs, nb t]
  | .snd t => by simp [toD, D.nb, D.nbs, nb t]
  | .inl t b => by simp [toD, D.nb, D.nbs, nb t, b.nb]
  | .inr t b => by simp [toD, D.nb, D.nbs, nb t, b.nb]
  | .cas s t u => by simp [toD, D.nb, D.nbs, nb s, nb t, nb u]
  | .abs t b => by simp [toD, D.nb, D.nbs, nb t, b.nb]
theorem lay : ∀ t : Trm, t.Over (fun x => PyData.strOk x = true) → t.toD.lay = true
  | .at n, _ => by simp [toD, D.lay, D.lays]
  | .fn a t, h => by simp [toD, D.lay, D.lays, a.lay h.1, lay t h.2]
  | .call s t, h => by simp [toD, D.lay, D.lays, lay s h.1, lay t h.2]
  | .pair s t, h => by simp [toD, D.lay, D.lays, lay s h.1, lay t h.2]
  | .fst t, h => by simp [toD, D.lay, D.lays, lay t h]
  | .snd t, h => by simp [toD, D.lay, D.lays, lay t h]
  | .inl t b, h => by simp [toD, D.lay, D.lays, lay t h.1, b.lay h.2]
  | .inr t b, h => by simp [toD, D.lay, D.lays, lay t h.1, b.lay h.2]
  | .cas s t u, h => by simp [toD, D.lay, D.lays, lay s h.1, lay t h.2.1, lay u h.2.2]
  | .abs t b, h => by simp [toD, D.lay, D.lays, lay t h.1, b.lay h.2]
theorem dp : ∀ t : Trm, t.toD.dp ≤ t.ht + t.an
  | .at n => by simp [toD, D.dp, D.dps, ht, an]
  | .fn a t => by have := dp t; have := a.dp; simp only [toD, D.dp, D.dps, ht, an]; omega
  | .call s t => by have := dp s; have := dp t; simp only [toD, D.dp, D.dps, ht, an]; omega
  | .pair s t => by have := dp s; have := dp t; simp only [toD, D.dp, D.dps, ht, an]; omega
  | .fst t => by have := dp t; simp only [toD, D.dp, D.dps, ht, an]; omega
  | .snd t => by have := dp t; simp only [toD, D.dp, D.dps, ht, an]; omega
  | .inl t b => by have := dp t; have := b.dp; simp only [toD, D.dp, D.dps, ht, an]; omega
  | .inr t b => by have := dp t; have := b.dp; simp only [toD, D.dp, D.dps, ht, an]; omega
  | .cas s t u => by have := dp s; have := dp t; have := dp u; simp only [toD, D.dp, D.dps, ht, an]; omega
  | .abs t b => by have := dp t; have := b.dp; simp only [toD, D.dp, D.dps, ht, an]; omega
theorem eqo {t : Trm} (h : t.Over (fun x => PyData.strOk x = true)) (h2 : t.ht + t.an ≤ 60) : t.toD.eqo = true := eqo_of (nb t) (lay t h) (by have := dp t; omega)
end Trm
end Fx
/-! zip of a tuple and a list. -/
namespace Fx
open PySem PySem.Spec L2 PyProof.Rows RZ
def StM (z TI TO j k a b : Addr) (n1 n2 : Nat) (i : Nat) (h : Heap) : Prop :=
  IsZip h z TI TO .none ∧ IsTupOf2 h TI (.ref j) (.ref k) ∧ (∃ x y, IsTupOf2 h TO x y) ∧ h.IsTupleIter j a i ∧ h.IsListIter k b i ∧ i ≤ n1 ∧ i ≤ n2
theorem mem5 {z TI TO j k c : Addr} (h : c ∈ [z, TI, TO, j, k]) : c = z ∨ c = TI ∨ c = TO ∨ c = j ∨ c = k := by simpa using h
theorem StM.lt {z TI TO j k a b c : Addr} {n1 n2 i : Nat} {h : Heap} (st : StM z TI TO j k a b n1 n2 i h) (hc : c ∈ [z, TI, TO, j, k]) : c < h.objs.size := by
  obtain ⟨k1, k2, ⟨x, y, k3⟩, ⟨_, k4, _⟩, ⟨_, k5, _⟩, _⟩ := st
  rcases mem5 hc with e | e | e | e | e <;> rw [e]
  · exact Heap.lt_size k1
  · exact Heap.lt_size k2
  · exact Heap.lt_size k3
  · exact Heap.lt_size k4
  · exact Heap.lt_size k5
/-! over trees -/
def gZipM : List D → M (List D)
  | [.tup ds, .lst es] => M.pure (zipD ds es)
  | _ => M.no
def cZipM (fs : Env → M (List D)) : Env → M (List D) := fun env => M.bind (fs env) gZipM
section
variable {X : Cx} {W : WX} {pos p tpos : Pos} {a b : Expr} {elts : List Expr} {kk : Nat} {fs : Env → M (List D)}
end
section
variable {ro w : List D} {env : Env} {fs : Env → M (List D)}
@[simp] theorem x_zipM : cZipM fs env ro w = (fs env ro w).an fun ds w1 => gZipM ds ro w1 := by
  show M.bind (fs env) _ ro w = _
  simp
@[simp] theorem zipM_lst {ds es : List D} : gZipM [.tup ds, .lst es] ro w = .ok (zipD ds es) w := rfl
end
end Fx
/-! enumerate over a list. -/
namespace Fx
open PySem PySem.Spec L2 PyProof.Rows RZ
def enumD (ds : List D) : List D := ds.mapIdx fun (i : Nat) d => .tup [.int (i : Int), d]
def gEnum : List D → M (List D)
  | [.lst es] => M.pure (enumD es)
  | _ => M.no
def cEnum (fs : Env → M (List D)) : Env → M (List D) := fun env => M.bind (fs env) gEnum
theorem walks_enum {K : PySem.W.Frag} {mg : Str → Option Value} {w : World} {ρ : Zn} {H : Hp} {es : List D} {a : Addr} {us : List V} (h : Still ρ H a (.lst us) ∨ KL K a us) (r : Reps ⟨K, mg, w⟩ ρ H es us) :
    Walks ⟨K, mg, w⟩ ρ H (enumD es) (Ite K a) := by
  intro i ρ' H' u x s
  have g : SqL K H' a us := h.elim (fun h => .inl (Still.extR x h).2) .inr
  have k := Reps.extR x es r
  refine ⟨fun d e => ?_, fun e => ⟨us, g, ?_⟩⟩
  · unfold enumD at e
    rw [List.getElem?_mapIdx] at e
    cases eq : es[i]? with
    | none => rw [eq] at e; cases e
    | some q =>
      rw [eq] at e
      cases e
      obtain ⟨y, y1, y2⟩ := k.get eq
      refine ⟨⟨us, y, g, y1⟩, fun v H2 ⟨T, q', e3, e4, e5, e6⟩ => ?_⟩
      have p1 := e6 us g
      rw [y1] at p1
      cases p1
      subst e3 e5
      exact ⟨ext_new s e4, reps_new s e4, T, _, rfl, .inl ⟨s.fresh e4, .inl upd_same⟩, .int (i : Nat), _, rfl, rfl, _, _, rfl, Rep.ext (ext_new s e4) _ y2, rfl⟩
  · have := List.getElem?_eq_none_iff.mp e
    unfold enumD at this
    rw [List.length_mapIdx, k.len] at this
    omega
section
variable {X : Cx} {W : WX} {pos p tpos : Pos} {a : Expr} {elts : List Expr} {kk : Nat} {fs : Env → M (List D)}
theorem pfi_enum (hg : Gl X "enumerate") (hm : X.mg "enumerate" = none) (ha : PA X [a] (tA (cfg X) W fs)) (hs : starEach [a] X.env = [(false, eval a X.env)] := by rfl) :
    PI X (.Tuple elts kk tpos) (.Call (.Name "enumerate" p) [a] [] pos) (tI (cfg X) W (cEnum fs)) := pi_imp (pi_enum hg hm ha hs) fun σ H R ⟨ρ, env, ro, w, hS, hE, q⟩ => by
  refine tR_seq hS hE q fun ds w1 vs ρ1 H1 x1 s1 r1 q1 => ?_
  unfold gEnum at q1
  split at q1
  · obtain ⟨v, r', e1, ⟨a, us, e2, hst, hr⟩, e5⟩ := r1
    cases (show r' = [] from e5)
    subst e1 e2
    exact ⟨a, us, rfl, Still.sqL hst, q1 _ ρ1 H1 .refl s1 (walks_enum hst hr)⟩
  · exact (show False from q1).elim
end
section
variable {ro w : List D} {env : Env} {fs : Env → M (List D)}
@[simp] theorem x_enum : cEnum fs env ro w = (fs env ro w).an fun ds w1 => gEnum ds ro w1 := by
  show M.bind (fs env) _ ro w = _
  simp
@[simp] theorem enum_lst {es : List D} : gEnum [.lst es] ro w = .ok (enumD es) w := rfl
end
end Fx
/-! Steps of terms: no program in sight. -/
namespace Fx
open PySem PySem.Spec L2
namespace Trm
/-- the term that a redex at the top becomes -/
def con : Trm → Option Trm
  | .call (.fn _ t) s => some (putAt s 0 t)
  | .fst (.pair s _) => some s
  | .snd (.pair _ t) => some t
  | .cas (.inl s _) t _ => some (putAt s 0 t)
  | .cas (.inr s _) _ u => some (putAt s 0 u)
  | _ => none
structure Good (N : Nat) (P : Str → Prop) (Γ : List Fm) (t t' : Trm) : Prop where
  ty : ty Γ t' = ty Γ t
  al : AllT N Γ t'
  ov : t'.Over P
  ht : t'.ht ≤ 2 * t.ht
  an : t'.an ≤ t.an
end Trm
end Fx
/-! Terms whose calls are all of written functions: reductions end, and they end at one term. No program in sight. -/
namespace Fx
open PySem PySem.Spec L2
namespace Trm
def LF : Trm → Prop
  | .at _ => True
  | .fn _ t => LF t
  | .call (.fn _ b) s => LF b ∧ LF s
  | .call _ _ => False
  | .pair s t => LF s ∧ LF t
  | .fst t => LF t
  | .snd t => LF t
  | .inl t _ => LF t
  | .inr t _ => LF t
  | .cas s t u => LF s ∧ LF t ∧ LF u
  | .abs t _ => LF t
/-! ### environments -/
section
variable {α : Type}
def cn (x : α) (ρ : Nat → α) : Nat → α
  | 0 => x
  | n + 1 => ρ n
def le (j k : Nat) (ρ : Nat → α) : Nat → α := fun n => if k ≤ n then ρ (n + j) else ρ n
def pe (d : Nat) (v : α) (ρ : Nat → α) : Nat → α := fun n => if n = d then v else if d < n then ρ (n - 1) else ρ n
theorem le_succ {d : Nat} {x : α} {ρ : Nat → α} : le (d + 1) 0 (cn x ρ) = le d 0 ρ := by
  funext n
  have e : n + (d + 1) = (n + d) + 1 := by omega
  simp only [le, Nat.zero_le, if_true]
  rw [e]
  rfl
end
/-! ### sizes: f says how parts are taken together -/
def I (f : Nat → Nat → Nat) : Trm → (Nat → Nat) → Nat
  | .at n, ρ => ρ n
  | .fn _ b, ρ => 1 + I f b (cn 1 ρ)
  | .call (.fn _ b) s, ρ => 2 + f (I f b (cn (I f s ρ) ρ)) (I f s ρ)
  | .call _ _, _ => 0
  | .pair s t, ρ => 1 + f (I f s ρ) (I f t ρ)
  | .fst t, ρ => 1 + I f t ρ
  | .snd t, ρ => 1 + I f t ρ
  | .inl t _, ρ => 1 + I f t ρ
  | .inr t _, ρ => 1 + I f t ρ
  | .cas s t u, ρ => 1 + f (I f s ρ) (f (I f t (cn (I f s ρ) ρ)) (I f u (cn (I f s ρ) ρ)))
  | .abs t _, ρ => 1 + I f t ρ
/-- f grows with its parts, and is at least each of them -/
structure Gr (f : Nat → Nat → Nat) : Prop where
  mono : ∀ a b c d, a ≤ c → b ≤ d → f a b ≤ f c d
  l : ∀ a b, a ≤ f a b
  r : ∀ a b, b ≤ f a b
/-! ### steps -/
inductive Red : Trm → Trm → Prop where
  | con {t t' : Trm} : con t = some t' → Red t t'
  | fn {a : Fm} {t t' : Trm} : Red t t' → Red (.fn a t) (.fn a t')
  | callf {a : Fm} {b b' s : Trm} : Red b b' → Red (.call (.fn a b) s) (.call (.fn a b') s)
  | callr {s t t' : Trm} : Red t t' → Red (.call s t) (.call s t')
  | pairl {s s' t : Trm} : Red s s' → Red (.pair s t) (.pair s' t)
  | pairr {s t t' : Trm} : Red t t' → Red (.pair s t) (.pair s t')
  | fst {t t' : Trm} : Red t t' → Red (.fst t) (.fst t')
  | snd {t t' : Trm} : Red t t' → Red (.snd t) (.snd t')
  | inl {t t' : Trm} {b : Fm} : Red t t' → Red (.inl t b) (.inl t' b)
  | inr {t t' : Trm} {b : Fm} : Red t t' → Red (.inr t b) (.inr t' b)
  | cass {s s' t u : Trm} : Red s s' → Red (.cas s t u) (.cas s' t u)
  | cast {s t t' u : Trm} : Red t t' → Red (.cas s t u) (.cas s t' u)
  | casu {s t u u' : Trm} : Red u u' → Red (.cas s t u) (.cas s t u')
  | abs {t t' : Trm} {b : Fm} : Red t t' → Red (.abs t b) (.abs t' b)
/-! ### the one normal term -/
def mf : Trm → Trm
  | .pair a _ => a
  | t => .fst t
def ms : Trm → Trm
  | .pair _ b => b
  | t => .snd t
def sh (ρ : Nat → Trm) : Nat → Trm := cn (.at 0) fun n => lift 1 0 (ρ n)
/-! ### the two ways to step -/
def ins : Trm → Option Trm
  | .at _ => none
  | .fn a t => (ins t).map (.fn a)
  | .call s t => match ins t with
    | some x => some (.call s x)
    | none => match ins s with
      | some x => some (.call x t)
      | none => con (.call s t)
  | .pair s t => match ins t with
    | some x => some (.pair s x)
    | none => (ins s).map (.pair · t)
  | .fst t => match ins t with
    | some x => some (.fst x)
    | none => con (.fst t)
  | .snd t => match ins t with
    | some x => some (.snd x)
    | none => con (.snd t)
  | .inl t b => (ins t).map (.inl · b)
  | .inr t b => (ins t).map (.inr · b)
  | .cas s t u => match ins u with
    | some x => some (.cas s t x)
    | none => match ins t with
      | some x => some (.cas s x u)
      | none => match ins s with
        | some x => some (.cas x t u)
        | none => con (.cas s t u)
  | .abs t b => (ins t).map (.abs · b)
/-! ### many steps -/
inductive Reds : Trm → Trm → Prop where
  | refl {t : Trm} : Reds t t
  | tail {s t u : Trm} : Reds s t → Red t u → Reds s u
end Trm
end Fx
/-! xs[::-1] of a list. -/
namespace Fx
open PySem PySem.Spec L2 PyProof.Rows RZ
def gSlR (x : D) (o : Option Int) : M D := match x, o with
  | .lst ds, some (-1) => M.pure (.lst ds.reverse)
  | _, _ => M.no
def cSlR (f : EF) (st : Env → M (Option Int)) : EF := fun env => M.bind (f env) fun d => M.bind (st env) fun i => M.bind (M.see d) fun d' => gSlR d' i
section
variable {X : Cx} {W : WX} {a : Expr} {st : Option Expr} {fa : EF} {fs : Env → M (Option Int)} {pos p2 : Pos}
end
section
variable {ro w : List D} {env : Env} {fa : EF} {fs : Env → M (Option Int)}
@[simp] theorem x_slR : cSlR fa fs env ro w = (fa env ro w).an fun d w1 => (fs env ro w1).an fun i w2 => gSlR (see ro w2 d) i ro w2 := by
  show M.bind (fa env) _ ro w = _
  simp
@[simp] theorem slR_lst {ds : List D} : gSlR (.lst ds) (some (-1)) ro w = .ok (.lst ds.reverse) w := rfl
end
end Fx
/-! How great a drawn term can become. -/
namespace Fx
open PySem PySem.Spec L2
namespace Trm
def cs : Nat → Nat
  | 0 => 2
  | d + 1 => 7 + 5 * cs d + cs d * cs d
def cl : Nat → Nat
  | 0 => 1
  | d + 1 => 2 * cl d + 4
end Trm
end Fx
/-! set(xs): of whole numbers, of pairs. -/
namespace Fx
open PySem PySem.Spec L2 PyProof.Rows
/-- a new set -/
def set0 (w : World) : Obj := { cls := .type "set", dict := none, data := .set #[] 0 (.fresh 0 0 (!w.params.followText "set-order")) }
section
variable {P : Program} {w : World} {A : Around} {E : Value → Shared → Prop} {s : Shared}
set_option maxHeartbeats 3200000

def it_list (l : Addr) : Obj := { cls := .type "list_iterator", data := .fields #[.ref l, .int 0 0] }
theorem set_of_list {l : Addr} {its : Array Value} {Q : Value → Shared → Prop} {Done : Shared → Prop} (hh : A.handled = none) (hl : s.heap.IsList l its)
    (loop : ∀ R : Result → Shared → Prop, (∀ s', Done s' → R (.ok (.ret .none)) s') →
      codeAny (model P w) A.in1.in1 (.builtin "set.update.loop" ⟨[.ref s.heap.objs.size, .ref (s.heap.objs.size + 1)], []⟩) R { s with heap := (s.heap.push (set0 w)).push (it_list l) })
    (h : ∀ s', Done s' → Q (.ref s.heap.objs.size) s') : wpAny (model P w) A (call (.type "set") [.ref l]) Q E s := by
  have CS := F.called_set
  obtain ⟨c, tl, r1⟩ := CS.mro
  have r2 := CS.made; have r3 := CS.sub; have r4 := CS.notType; have r5 := CS.canCreate
  have r6 := F.typeCall_set_1 (.ref l)
  refine wpAny_call (codeAny_of_tree (?_ : wpAny (model P w) _ (callAny (.type "set") _) _ _ _))
  refine wpAny_pure ⟨Code.quiet_builtin _ (by decide +kernel), codeAny_builtin F.entry_type_call ?_⟩
  rw [Around.under_plain (weight_type_call_type "set" [.ref l] []) rfl]
  repeat (any_goals (first | assumption | wp_step))
  refine codeAny_mono (code_set_led1 (.ref l) (E := E) (Q₁ := fun v t => v = .ref s.heap.objs.size ∧ t = { s with heap := s.heap.push (set0 w) }) ⟨rfl, rfl⟩) fun r t hr => ?_
  cases r with
  | error e => exact hr
  | ok fl =>
    cases fl with
    | ret v =>
      obtain ⟨rfl, rfl⟩ := hr
      have a0 : (s.heap.push (set0 w)).get? s.heap.objs.size = some (set0 w) := Heap.get?_push_size _ rfl
      have a1 : Shared.TypeIs { s with heap := s.heap.push (set0 w) } (.ref s.heap.objs.size) "set" := ⟨_, a0, rfl⟩
      have r7 := CS.init.lookup
      have r8 := CS.init.bind (.ref s.heap.objs.size)
      repeat (any_goals (first | assumption | wp_step))
      refine codeAny_mono (codeAny_call_builtin (R := wants (fun r t => r = .none ∧ Done t) E) CS.init.plain F.entry_set_init (check_set_init_1 a1 ?_)) fun r t hr => ?_
      · obtain ⟨⟨oc, od, oD, os⟩, g1, g2, g3, g4⟩ := hl
        simp only at g2 g4
        subst g2 g4
        have b1 : (s.heap.push (set0 w)).get? l = some { cls := .type "list", dict := od, data := .seq its g3, slots := os } := Heap.get?_push_of_some _ g1
        have b2 := F.sub_list_set
        have b3 := F.sub_list_frozenset
        have b4 : (Value.type "list" == Value.type "dict") = false := by decide
        have b5 : (s.heap.push (set0 w)).IsList l its := ⟨_, b1, rfl, g3, rfl⟩
        unfold Builtin.«set.__init__» noKeywords Builtin.Frozenset.updateFrom
        generalize hPI : pyIter = PI
        wp_walk
        subst hPI
        refine wpAny_pyIter_list b5 (wpAny_bind (wpAny_runValue ?_))
        have zz : (s.heap.push (set0 w)).objs.size = s.heap.objs.size + 1 := Heap.size_push ..
        dsimp only
        rw [zz]
        refine loop _ fun s' d => ?_
        refine (wpAny_pure ?_ : wpAny _ _ _ _ _ _)
        refine (?_ : wpAny _ _ (ret Value.none) _ _ _)
        exact wpAny_pure ⟨rfl, d⟩
      · cases r with
        | error e => exact hr
        | ok fl =>
          cases fl with
          | ret v =>
            obtain ⟨rfl, d⟩ := hr
            repeat (any_goals (first | assumption | wp_step))
            exact h _ d
          | _ => exact hr.elim
    | _ => exact hr.elim


def it_tuple (l : Addr) : Obj := { cls := .type "tuple_iterator", data := .fields #[.ref l, .int 0 0] }
theorem set_of_tuple {l : Addr} {its : Array Value} {Q : Value → Shared → Prop} {Done : Shared → Prop} (hh : A.handled = none) (hl : s.heap.IsTuple l its)
    (loop : ∀ R : Result → Shared → Prop, (∀ s', Done s' → R (.ok (.ret .none)) s') →
      codeAny (model P w) A.in1.in1 (.builtin "set.update.loop" ⟨[.ref s.heap.objs.size, .ref (s.heap.objs.size + 1)], []⟩) R { s with heap := (s.heap.push (set0 w)).push (it_tuple l) })
    (h : ∀ s', Done s' → Q (.ref s.heap.objs.size) s') : wpAny (model P w) A (call (.type "set") [.ref l]) Q E s := by
  have CS := F.called_set
  obtain ⟨c, tl, r1⟩ := CS.mro
  have r2 := CS.made; have r3 := CS.sub; have r4 := CS.notType; have r5 := CS.canCreate
  have r6 := F.typeCall_set_1 (.ref l)
  refine wpAny_call (codeAny_of_tree (?_ : wpAny (model P w) _ (callAny (.type "set") _) _ _ _))
  refine wpAny_pure ⟨Code.quiet_builtin _ (by decide +kernel), codeAny_builtin F.entry_type_call ?_⟩
  rw [Around.under_plain (weight_type_call_type "set" [.ref l] []) rfl]
  repeat (any_goals (first | assumption | wp_step))
  refine codeAny_mono (code_set_led1 (.ref l) (E := E) (Q₁ := fun v t => v = .ref s.heap.objs.size ∧ t = { s with heap := s.heap.push (set0 w) }) ⟨rfl, rfl⟩) fun r t hr => ?_
  cases r with
  | error e => exact hr
  | ok fl =>
    cases fl with
    | ret v =>
      obtain ⟨rfl, rfl⟩ := hr
      have a0 : (s.heap.push (set0 w)).get? s.heap.objs.size = some (set0 w) := Heap.get?_push_size _ rfl
      have a1 : Shared.TypeIs { s with heap := s.heap.push (set0 w) } (.ref s.heap.objs.size) "set" := ⟨_, a0, rfl⟩
      have r7 := CS.init.lookup
      have r8 := CS.init.bind (.ref s.heap.objs.size)
      repeat (any_goals (first | assumption | wp_step))
      refine codeAny_mono (codeAny_call_builtin (R := wants (fun r t => r = .none ∧ Done t) E) CS.init.plain F.entry_set_init (check_set_init_1 a1 ?_)) fun r t hr => ?_
      · obtain ⟨⟨oc, od, oD, os⟩, g1, g2, g3, g4⟩ := hl
        simp only at g2 g4
        subst g2 g4
        have b1 : (s.heap.push (set0 w)).get? l = some { cls := .type "tuple", dict := od, data := .seq its g3, slots := os } := Heap.get?_push_of_some _ g1
        have b2 := F.sub_tuple_set
        have b3 := F.sub_tuple_frozenset
        have b4 : (Value.type "tuple" == Value.type "dict") = false := by decide
        have b5 : (s.heap.push (set0 w)).IsTuple l its := ⟨_, b1, rfl, g3, rfl⟩
        unfold Builtin.«set.__init__» noKeywords Builtin.Frozenset.updateFrom
        generalize hPI : pyIter = PI
        wp_walk
        subst hPI
        refine wpAny_pyIter_tuple b5 (wpAny_bind (wpAny_runValue ?_))
        have zz : (s.heap.push (set0 w)).objs.size = s.heap.objs.size + 1 := Heap.size_push ..
        dsimp only
        rw [zz]
        refine loop _ fun s' d => ?_
        refine (wpAny_pure ?_ : wpAny _ _ _ _ _ _)
        refine (?_ : wpAny _ _ (ret Value.none) _ _ _)
        exact wpAny_pure ⟨rfl, d⟩
      · cases r with
        | error e => exact hr
        | ok fl =>
          cases fl with
          | ret v =>
            obtain ⟨rfl, d⟩ := hr
            repeat (any_goals (first | assumption | wp_step))
            exact h _ d
          | _ => exact hr.elim
    | _ => exact hr.elim

end
section
variable {P : Program} {w : World} {A : Around} {E : Value → Shared → Prop} {s : Shared}
theorem lt_of_list {l : Addr} {its : Array Value} {h : Heap} (hl : h.IsList l its) : l < h.objs.size := Heap.lt_size hl.choose_spec.1
theorem lt_of_tuple {l : Addr} {its : Array Value} {h : Heap} (hl : h.IsTuple l its) : l < h.objs.size := Heap.lt_size hl.choose_spec.1
theorem none_at {h : Heap} {b : Addr} (hb : h.objs.size ≤ b) : h.get? b = none := by
  cases q : h.get? b with
  | none => rfl
  | some o =>
    exact absurd (Nat.lt_of_lt_of_le (Heap.lt_size q) hb) (Nat.lt_irrefl _)
theorem ne_succ {l n : Nat} (h : l < n) : l ≠ n + 1 := by omega
theorem not_two {n l : Nat} (h : l < n) : n ∉ [n + 1, l] := by simp; omega
theorem not_two2 {n b : Nat} (h : b < n) : b ∉ [n, n + 1] := by simp; omega
/-- set(xs), xs a list of ints -/
theorem call_set_ints {l : Addr} {its : Array Value} {ns : List Int} {Q : Value → Shared → Prop} (hh : A.handled = none) (hl : s.heap.IsList l its) (hi : IntsAre its.toList ns) (hb : ns.length + 1 < scanBound)
    (h : ∀ (h' : Heap) (tk c : Nat), SetR w h' s.heap.objs.size (fun j => decide (j ∈ ns)) c → c ≤ ns.length → (∀ b o, s.heap.get? b = some o → h'.get? b = some o) → Q (.ref s.heap.objs.size) { s with heap := h', toks := tk }) :
    wpAny (model P w) A (call (.type "set") [.ref l]) Q E s := by
  have lt := lt_of_list hl
  have hz : its.size = ns.length := by
    have q := IntsAre.length hi
    rwa [Array.length_toList] at q
  have z1 : (s.heap.push (set0 w)).objs.size = s.heap.objs.size + 1 := Heap.size_push ..
  refine set_of_list (Done := fun s' => ∃ c, (SetR w s'.heap s.heap.objs.size (fun j => decide (j ∈ ns)) c ∧ c ≤ ns.length) ∧ (s'.gens = s.gens ∧ s'.drawn = s.drawn ∧ s'.os = s.os) ∧ ∀ b o, s.heap.get? b = some o → s'.heap.get? b = some o) hh hl (fun R k => ?_) fun s' ⟨c, ⟨r, hc⟩, ⟨e1, e2, e3⟩, kp⟩ => ?_
  · have b1 : ((s.heap.push (set0 w)).push (it_list l)).get? (s.heap.objs.size + 1) = some (it_list l) := by
      rw [← z1]
      exact Heap.get?_push_size _ rfl
    refine set_update_ints ((Walks.list (by simp [hh]) (s.heap.objs.size + 1) l (ne_succ lt) its).toS) s.heap.objs.size (not_two lt) ns hz hb (fun i v hv => ?_) (its.size - 0) 0 _ (by omega) (Nat.zero_le _) ⟨⟨_, b1, rfl, rfl⟩, (hl.push _).push _⟩ ⟨0, Nat.le_refl 0, setR_new_at (Heap.get?_push_of_some _ (Heap.get?_push_size _ rfl))⟩ fun s' c m hc r => k s' ⟨c, ⟨r, by omega⟩, ⟨m.gens, m.drawn, m.os⟩, fun b o e => ?_⟩
    · have hi2 : i < ns.length := by rw [← hz]; exact (Array.getElem?_eq_some_iff.mp hv).1
      obtain ⟨t, e⟩ := IntsAre.int_at hi i v (by rw [Array.getElem?_toList]; exact hv)
      refine ⟨ns[i], t, List.getElem?_eq_getElem hi2, ?_⟩
      rw [e, List.getD_eq_getElem?_getD, List.getElem?_eq_getElem hi2]
      rfl
    · exact m.heap b o (not_two2 (Heap.lt_size e)) (Heap.get?_push_of_some _ (Heap.get?_push_of_some _ e))
  · obtain ⟨h', g, d, tk, os⟩ := s'
    cases e1; cases e2; cases e3
    exact h h' tk c r hc kp
/-- set(xs), xs a tuple of tuples of ints -/
theorem call_set_tupsT {l : Addr} {its : Array Value} (ks : List (Addr × List Int)) {Q : Value → Shared → Prop} (hh : A.handled = none) (hl : s.heap.IsTuple l its) (hit : its.toList = ks.map fun p => Value.ref p.1)
    (hk : ∀ p ∈ ks, IsT P w s.heap p.2 p.1) (hfew : ks.length < 64) (hu : A.units + 3 < cLine)
    (h : ∀ (h' : Heap) (tk : Nat) L es ep t, SetTR P w h' s.heap.objs.size L es ep t → Got ks ks.length L → (∀ b o, s.heap.get? b = some o → h'.get? b = some o) → Q (.ref s.heap.objs.size) { s with heap := h', toks := tk }) :
    wpAny (model P w) A (call (.type "set") [.ref l]) Q E s := by
  have lt := lt_of_tuple hl
  have hz : its.size = ks.length := by
    have q := congrArg List.length hit
    rwa [Array.length_toList, List.length_map] at q
  have z1 : (s.heap.push (set0 w)).objs.size = s.heap.objs.size + 1 := Heap.size_push ..
  refine set_of_tuple (Done := fun s' => ∃ L es ep t, (SetTR P w s'.heap s.heap.objs.size L es ep t ∧ Got ks ks.length L) ∧ (s'.gens = s.gens ∧ s'.drawn = s.drawn ∧ s'.os = s.os) ∧ ∀ b o, s.heap.get? b = some o → s'.heap.get? b = some o) hh hl (fun R k => ?_) fun s' ⟨L, es, ep, t, ⟨r, hc⟩, ⟨e1, e2, e3⟩, kp⟩ => ?_
  · have b1 : ((s.heap.push (set0 w)).push (it_tuple l)).get? (s.heap.objs.size + 1) = some (it_tuple l) := by
      rw [← z1]
      exact Heap.get?_push_size _ rfl
    refine set_update_tups ((Walks.tuple (by simp [hh]) (s.heap.objs.size + 1) l (ne_succ lt) its).toS) s.heap.objs.size (not_two lt) ks hz hfew (fun i v hv => ?_) s.heap hk (none_at (Nat.le_refl _)) (fun b hb => none_at (by rw [List.mem_singleton.mp hb]; exact Nat.le_succ _)) (by simpa using hu) (its.size - 0) 0 _ (by omega) (Nat.zero_le _) ⟨⟨_, b1, rfl, rfl⟩, (hl.push _).push _⟩ (fun b o e => Heap.get?_push_of_some _ (Heap.get?_push_of_some _ e)) ⟨[], #[], 0, _, setTR_fresh (Heap.get?_push_of_some _ (Heap.get?_push_size _ rfl)), Got.zero ks⟩ fun s' L es ep t m r g kp => k s' ⟨L, es, ep, t, ⟨r, by rw [← hz]; exact g⟩, ⟨m.gens, m.drawn, m.os⟩, kp⟩
    · have q : its.toList[i]? = some v := by rw [Array.getElem?_toList]; exact hv
      rw [hit, List.getElem?_map] at q
      cases hq : ks[i]? with
      | none => rw [hq] at q; cases q
      | some p =>
        rw [hq] at q
        exact ⟨p, rfl, (Option.some.inj q).symm⟩
  · obtain ⟨h', g, d, tk, os⟩ := s'
    cases e1; cases e2; cases e3
    exact h h' tk L es ep t r hc kp
end
section
variable {X : Cx}
def rSetOfI (K : PySem.W.Frag) (w : World) : List V → Hp → VK → Prop := fun xs H Q => ∃ (l : Addr) (ns : List Int), xs = [V.ref l] ∧ SqL K H l (ns.map V.int) ∧ ns.length < 64 ∧ ∀ a c, H a = none → c ≤ ns.length → Q (.ref a) (upd H a (SetO w a (fun j => decide (j ∈ ns)) c))
theorem cr_setOfI (hc : X.calm = true) : CallR X (.type "set") (rSetOfI X.K X.w) := by
  rintro pins s σ H xs us Q I r ⟨l, ns, rfl, hl, hf, q⟩
  rw [Vals.ref1 r]
  obtain ⟨its, rv, pl, hz⟩ := I.list hl
  have hn : H s.heap.objs.size = none := I.hok.fresh (Nat.le_refl _)
  refine call_set_ints (ns := ns) (I.ok.hd hc) pl.isList (by simpa using rv.ints) (by unfold scanBound; omega) fun h' tk c R hle k => ?_
  exact ⟨.ref s.heap.objs.size, _, I.laid (t' := tk) k (Nat.le_refl _) (setO_new R), rfl, q _ c hn hle⟩
def rSetOfTT (K : PySem.W.Frag) (P : Program) (w : World) : List V → Hp → VK → Prop := fun xs H Q => ∃ (l : Addr) (ks : List (Addr × List Int)), xs = [V.ref l] ∧ SqT K H l (ks.map fun p => V.ref p.1) ∧ (∀ p ∈ ks, SqT K H p.1 (p.2.map V.int)) ∧ ks.length < 64 ∧
  ∀ a L, H a = none → (∀ p ∈ L, p ∈ ks) → (∀ p ∈ ks, p.2 ∈ L.map (·.2)) → Q (.ref a) (upd H a (SetTO P w a L))
theorem cr_setOfTT (hc : X.calm = true) (hu : X.A.units + 64 < cLine) : CallR X (.type "set") (rSetOfTT X.K X.prog X.w) := by
  rintro pins s σ H xs us Q I r ⟨l, ks, rfl, hl, hk, hf, q⟩
  rw [Vals.ref1 r]
  obtain ⟨its, rv, pl, hz⟩ := I.tuple hl
  have hn : H s.heap.objs.size = none := I.hok.fresh (Nat.le_refl _)
  refine call_set_tupsT (P := X.prog) (w := X.w) ks (I.ok.hd hc) pl (by simpa using refs_of_vals rv) (fun p hp => I.isT (hk p hp)) hf (by omega) fun h' tk L es ep t R g k => ?_
  refine ⟨.ref s.heap.objs.size, upd H s.heap.objs.size (SetTO X.prog X.w s.heap.objs.size L), I.laid (t' := tk) k (Nat.le_refl _) (setTO_new R.t0), rfl, q _ L hn (fun p hp => ?_) fun p hp => ?_⟩
  · exact List.mem_of_mem_take (g.sub p hp)
  · exact g.all p (by rw [List.take_length]; exact hp)
end
end Fx
/-! sorted(set(xs)). -/
namespace Fx
open PySem PySem.Spec L2 PyProof.Rows
/-! ### ascending, each once -/
section
variable {α : Type} {f : α → Int}
def insK (f : α → Int) (x : α) : List α → List α
  | [] => [x]
  | y :: l => if f x < f y then x :: y :: l else if f x = f y then y :: l else y :: insK f x l
def setK (f : α → Int) (l : List α) : List α := l.foldr (insK f) []
def Asc (f : α → Int) (l : List α) : Prop := l.Pairwise fun x y => f x < f y
theorem mem_insK {x z : α} : ∀ {l : List α}, (∀ y ∈ l, f x = f y → x = y) → (z ∈ insK f x l ↔ z = x ∨ z ∈ l)
  | [], _ => by simp [insK]
  | y :: l, h => by
    have ih := mem_insK (x := x) (z := z) (l := l) fun y hy => h y (List.mem_cons_of_mem _ hy)
    unfold insK
    split
    · simp
    · split
      · rename_i e
        have := h y (by simp) e
        subst this
        simp
      · rw [List.mem_cons, ih, List.mem_cons]
        constructor
        · rintro (a | a | a) <;> simp [a]
        · rintro (a | a | a) <;> simp [a]
theorem asc_insK {x : α} : ∀ {l : List α}, Asc f l → Asc f (insK f x l) ∧ ∀ z ∈ insK f x l, f z = f x ∨ z ∈ l
  | [], _ => by simp [insK, Asc]
  | y :: l, h => by
    obtain ⟨h1, h2⟩ := List.pairwise_cons.mp h
    obtain ⟨i1, i2⟩ := asc_insK (x := x) h2
    unfold insK
    split
    · rename_i c
      refine ⟨List.pairwise_cons.mpr ⟨fun z hz => ?_, h⟩, fun z hz => ?_⟩
      · rcases List.mem_cons.mp hz with rfl | hz
        · exact c
        · have := h1 z hz
          omega
      · rcases List.mem_cons.mp hz with rfl | hz
        · exact .inl rfl
        · exact .inr hz
    · split
      · exact ⟨h, fun z hz => .inr hz⟩
      · rename_i c1 c2
        refine ⟨List.pairwise_cons.mpr ⟨fun z hz => ?_, i1⟩, fun z hz => ?_⟩
        · rcases i2 z hz with e | e
          · omega
          · exact h1 z e
        · rcases List.mem_cons.mp hz with rfl | hz
          · exact .inr List.mem_cons_self
          · exact (i2 z hz).imp id (List.mem_cons_of_mem _)
theorem asc_setK : ∀ (l : List α), Asc f (setK f l)
  | [] => List.Pairwise.nil
  | x :: l => (asc_insK (x := x) (asc_setK l)).1
theorem mem_setK {z : α} : ∀ {l : List α}, (∀ x ∈ l, ∀ y ∈ l, f x = f y → x = y) → (z ∈ setK f l ↔ z ∈ l)
  | [], _ => by simp [setK]
  | x :: l, h => by
    have hl : ∀ a ∈ l, ∀ b ∈ l, f a = f b → a = b := fun a ha b hb => h a (List.mem_cons_of_mem _ ha) b (List.mem_cons_of_mem _ hb)
    have e : setK f (x :: l) = insK f x (setK f l) := rfl
    rw [e, mem_insK fun y hy => h x (by simp) y (List.mem_cons_of_mem _ ((mem_setK hl).mp hy)), mem_setK hl, List.mem_cons]
theorem asc_eq : ∀ {l m : List α}, Asc f l → Asc f m → (∀ z, z ∈ l ↔ z ∈ m) → l = m
  | [], [], _, _, _ => rfl
  | [], y :: m, _, _, h => by have := (h y).mpr (by simp); cases this
  | x :: l, [], _, _, h => by have := (h x).mp (by simp); cases this
  | x :: l, y :: m, a, b, h => by
    obtain ⟨a1, a2⟩ := List.pairwise_cons.mp a
    obtain ⟨b1, b2⟩ := List.pairwise_cons.mp b
    have e : x = y := by
      rcases List.mem_cons.mp ((h x).mp (by simp)) with e | e
      · exact e
      · rcases List.mem_cons.mp ((h y).mpr (by simp)) with e2 | e2
        · exact e2.symm
        · have := b1 x e
          have := a1 y e2
          omega
    subst e
    rw [asc_eq a2 b2 fun z => ⟨fun hz => ?_, fun hz => ?_⟩]
    · rcases List.mem_cons.mp ((h z).mp (List.mem_cons_of_mem _ hz)) with e | e
      · subst e
        have := a1 z hz
        omega
      · exact e
    · rcases List.mem_cons.mp ((h z).mpr (List.mem_cons_of_mem _ hz)) with e | e
      · subst e
        have := b1 z hz
        omega
      · exact e
end
/-! ### the rule -/
def asInt : D → Option Int
  | .int i => some i
  | _ => none
def asInts : List D → Option (List Int)
  | [] => some []
  | d :: ds => match asInt d, asInts ds with
    | some i, some is => some (i :: is)
    | _, _ => none
def asPair : D → Option (List Int)
  | .tup [.int x, .int y] => if (0 ≤ x ∧ x < 64) ∧ (0 ≤ y ∧ y < 64) then some [x, y] else none
  | _ => none
def asPairs : List D → Option (List (List Int))
  | [] => some []
  | d :: ds => match asPair d, asPairs ds with
    | some i, some is => some (i :: is)
    | _, _ => none
def pairK : List Int → Int := TS.code 64
def ofInts (l : List Int) : D := .tup (l.map .int)
def sortSet (d : D) : Option (List D) := match d with
  | .lst ds => (match asInts ds with
    | some ns => if ns.length < 64 then some ((setK id ns).map .int) else none
    | none => none)
  | .tup ds => (match asPairs ds with
    | some ps => if ps.length < 64 then some ((setK pairK ps).map ofInts) else none
    | none => none)
  | _ => none
def gSortSet (d : D) : M D := fun _ w => match sortSet d with
  | some ds => .ok (.lst ds) w
  | none => .no
theorem asInts_some : ∀ {ds : List D} {ns : List Int}, asInts ds = some ns → ds = ns.map .int
  | [], ns, h => by cases h; rfl
  | d :: ds, ns, h => by
    unfold asInts at h
    cases e1 : asInt d with
    | none => simp [e1] at h
    | some i =>
      cases e2 : asInts ds with
      | none => simp [e1, e2] at h
      | some is =>
        simp only [e1, e2, Option.some.injEq] at h
        subst h
        rw [asInts_some e2]
        cases d <;> simp_all [asInt]
theorem asInts_map : ∀ (ns : List Int), asInts (ns.map .int) = some ns
  | [] => rfl
  | n :: ns => by simp [asInts, asInt, asInts_map ns]
theorem asPair_some {d : D} {l : List Int} (h : asPair d = some l) : ∃ x y, d = .tup [.int x, .int y] ∧ l = [x, y] ∧ (0 ≤ x ∧ x < 64) ∧ (0 ≤ y ∧ y < 64) := by
  unfold asPair at h
  split at h
  · rename_i x y
    split at h
    · rename_i c
      cases h
      exact ⟨x, y, rfl, rfl, c⟩
    · cases h
  · cases h
theorem asPairs_some : ∀ {ds : List D} {ps : List (List Int)}, asPairs ds = some ps → ds = ps.map ofInts ∧ ∀ l ∈ ps, ∃ x y, l = [x, y] ∧ (0 ≤ x ∧ x < 64) ∧ (0 ≤ y ∧ y < 64)
  | [], ps, h => by cases h; exact ⟨rfl, fun l hl => by cases hl⟩
  | d :: ds, ps, h => by
    unfold asPairs at h
    cases e1 : asPair d with
    | none => simp [e1] at h
    | some i =>
      cases e2 : asPairs ds with
      | none => simp [e1, e2] at h
      | some is =>
        simp only [e1, e2, Option.some.injEq] at h
        subst h
        obtain ⟨h1, h2⟩ := asPairs_some e2
        obtain ⟨x, y, rfl, rfl, c⟩ := asPair_some e1
        refine ⟨by rw [h1]; rfl, fun l hl => ?_⟩
        rcases List.mem_cons.mp hl with rfl | hl
        · exact ⟨x, y, rfl, c⟩
        · exact h2 l hl
theorem pairK_two {x y : Int} : pairK [x, y] = x * 64 + y := code_pair x y
theorem pairK_inj {l m : List Int} (hl : ∃ x y, l = [x, y] ∧ (0 ≤ x ∧ x < 64) ∧ (0 ≤ y ∧ y < 64)) (hm : ∃ x y, m = [x, y] ∧ (0 ≤ x ∧ x < 64) ∧ (0 ≤ y ∧ y < 64)) (e : pairK l = pairK m) : l = m := by
  obtain ⟨x, y, rfl, h1, h2⟩ := hl
  obtain ⟨u, v, rfl, h3, h4⟩ := hm
  rw [pairK_two, pairK_two] at e
  have e1 : x = u := by omega
  have e2 : y = v := by omega
  rw [e1, e2]
section
variable {X : Cx} {W : WX}
def kSS (X : Cx) (Q : VK) : VK := fun v H1 => rSortedSet X.w [v] H1 Q ∨ rSortedT X.K X.prog X.w [v] H1 Q
def rSS (X : Cx) : List V → Hp → VK → Prop := fun xs H Q => rSetOfI X.K X.w xs H (kSS X Q) ∨ rSetOfTT X.K X.prog X.w xs H (kSS X Q)
theorem reps_maps {C : Cfg} {ρ : Zn} {H : Hp} {α : Type} {f : α → D} {g : α → V} : ∀ {l : List α}, (∀ x ∈ l, Rep C ρ H (f x) (g x)) → Reps C ρ H (l.map f) (l.map g)
  | [], _ => rfl
  | x :: l, h => ⟨_, _, rfl, h x (by simp), reps_maps fun y hy => h y (List.mem_cons_of_mem _ hy)⟩
theorem ints_reps {C : Cfg} {ρ : Zn} {H : Hp} : ∀ {ns : List Int} {vs : List V}, Reps C ρ H (ns.map .int) vs → vs = ns.map V.int
  | [], vs, h => h
  | n :: ns, vs, ⟨v, r, e, h1, h2⟩ => by
    subst e
    rw [ints_reps h2, show v = V.int n from h1]
    rfl
theorem tups_reps {C : Cfg} {ρ : Zn} {H : Hp} : ∀ {ps : List (List Int)} {vs : List V}, Reps C ρ H (ps.map ofInts) vs → ∃ ks : List (Addr × List Int), vs = ks.map (fun p => V.ref p.1) ∧ ks.map (·.2) = ps ∧ ∀ p ∈ ks, Rep C ρ H (ofInts p.2) (.ref p.1)
  | [], vs, h => ⟨[], h, rfl, fun p hp => by cases hp⟩
  | n :: ps, vs, ⟨v, r, e, h1, h2⟩ => by
    subst e
    obtain ⟨ks, rfl, rfl, h3⟩ := tups_reps h2
    obtain ⟨a, us, rfl, q1, q2⟩ := h1
    refine ⟨(a, n) :: ks, rfl, rfl, fun p hp => ?_⟩
    rcases List.mem_cons.mp hp with rfl | hp
    · exact ⟨a, us, rfl, q1, q2⟩
    · exact h3 p hp
theorem ofInts_sq {C : Cfg} {ρ : Zn} {H : Hp} {l : List Int} {a : Addr} (h : Rep C ρ H (ofInts l) (.ref a)) : SqT C.K H a (l.map V.int) := by
  obtain ⟨b, us, e, q1, q2⟩ := h
  cases e
  rw [← ints_reps q2]
  exact Still.sqT q1
theorem ok_sortSet : Ok1 (cfg X) (rSS X) gSortSet := by
  intro W σ ρ H ro w d x Q hS hd q
  unfold gSortSet at q
  cases e : sortSet d with
  | none => simp only [e] at q; exact (show False from q).elim
  | some out =>
    simp only [e] at q
    cases d with
    | lst ds =>
      unfold sortSet at e
      cases e1 : asInts ds with
      | none => simp [e1] at e
      | some ns =>
        simp only [e1] at e
        by_cases c : ns.length < 64
        · simp only [if_pos c, Option.some.injEq] at e
          subst e
          have e2 := asInts_some e1
          subst e2
          obtain ⟨a, vs, rfl, hs, r⟩ := hd.lst
          rw [ints_reps r] at hs
          refine .inl ⟨a, ns, rfl, hs, c, fun b n hb hn => .inl ⟨b, _, n, rfl, by rw [upd_same], by omega, fun ms p hp hm hl hpn => ?_⟩⟩
          have em : ms = setK id ns := asc_eq (f := id) hp (asc_setK ns) fun z => by
            rw [hm z, mem_setK (f := id) fun x _ y _ h => h]
            simp
          subst em
          have s1 : RepS (cfg X) ρ (upd H b (SetO X.w b (fun j => decide (j ∈ ns)) n)) (ro ++ w) := reps_new hS hb
          refine ok_lst (C := cfg X) (W := W) (σ := σ) s1 (reps_maps (f := D.int) (g := V.int) fun _ _ => rfl) (fun u ρ' H' w' x' => ?_) p hpn
          exact q u ρ' H' ((ext_new hS hb).trans w') x'
        · simp only [if_neg c] at e
          cases e
    | tup ds =>
      unfold sortSet at e
      cases e1 : asPairs ds with
      | none => simp [e1] at e
      | some ps =>
        simp only [e1] at e
        by_cases c : ps.length < 64
        · simp only [if_pos c, Option.some.injEq] at e
          subst e
          obtain ⟨e2, hb⟩ := asPairs_some e1
          subst e2
          obtain ⟨a, vs, rfl, hs, r⟩ := hd.tup
          obtain ⟨ks, rfl, rfl, hk⟩ := tups_reps r
          refine .inr ⟨a, ks, rfl, hs, fun p hp => ofInts_sq (hk p hp), by simpa using c, fun b L hbn hL1 hL2 => .inr ⟨b, L, 2, 64, rfl, by rw [upd_same], fun p hp => ofInts_sq (Rep.ext (ext_new hS hbn) _ (hk p (hL1 p hp))), by decide, fun p hp => ?_, fun L' p pm nd hfew hp hpn => ?_⟩⟩
          · obtain ⟨x, y, e, h1, h2⟩ := hb p.2 (List.mem_map_of_mem (hL1 p hp))
            rw [e]
            refine ⟨rfl, fun m hm => ?_⟩
            rcases List.mem_cons.mp hm with rfl | hm
            · exact h1
            · rcases List.mem_cons.mp hm with rfl | hm
              · exact h2
              · cases hm
          · have hin : ∀ q ∈ L', q ∈ ks := fun q hq => hL1 q (pm.mem_iff.mp hq)
            have hbd : ∀ q ∈ L', ∃ x y, q.2 = [x, y] ∧ (0 ≤ x ∧ x < 64) ∧ (0 ≤ y ∧ y < 64) := fun q hq => hb q.2 (List.mem_map_of_mem (hin q hq))
            have asc : Asc pairK (L'.map (·.2)) := by
              have h1 : (L'.map (·.2)).Pairwise fun u v => pairK u ≤ pairK v := List.pairwise_map.mpr hp
              refine List.Pairwise.imp_of_mem (fun {u v} hu hv h => ?_) (h1.and nd)
              obtain ⟨q1, hq1, rfl⟩ := List.mem_map.mp hu
              obtain ⟨q2, hq2, rfl⟩ := List.mem_map.mp hv
              have : pairK q1.2 ≠ pairK q2.2 := fun e => h.2 (pairK_inj (hbd q1 hq1) (hbd q2 hq2) e)
              have := h.1
              omega
            have em : L'.map (·.2) = setK pairK (ks.map (·.2)) := asc_eq asc (asc_setK _) fun z => by
              rw [mem_setK fun x hx y hy h => pairK_inj (hb x hx) (hb y hy) h]
              constructor
              · intro hz
                obtain ⟨q1, hq1, rfl⟩ := List.mem_map.mp hz
                exact List.mem_map_of_mem (hin q1 hq1)
              · intro hz
                obtain ⟨q1, hq1, rfl⟩ := List.mem_map.mp hz
                obtain ⟨q2, hq2, e⟩ := List.mem_map.mp (hL2 q1 hq1)
                rw [← e]
                exact List.mem_map_of_mem (pm.mem_iff.mpr hq2)
            rw [← em, List.map_map] at q
            have s1 : RepS (cfg X) ρ (upd H b (SetTO X.prog X.w b L)) (ro ++ w) := reps_new hS hbn
            refine ok_lst (C := cfg X) (W := W) (σ := σ) s1 (reps_maps (f := ofInts ∘ fun q : Addr × List Int => q.2) (g := fun q : Addr × List Int => V.ref q.1) fun q hq => Rep.ext (ext_new hS hbn) _ (hk q (hin q hq))) (fun u ρ' H' w' x' => ?_) p hpn
            exact q u ρ' H' ((ext_new hS hbn).trans w') x'
        · simp only [if_neg c] at e
          cases e
    | _ => cases e
/-- sorted(set(e)) -/
theorem pf_sortSet {e : Expr} {p1 p2 q1 q2 : Pos} {fs : Env → M (List D)} (hc : X.calm = true) (hu : X.A.units + 70 < cLine) (hg : Gl X "sorted") (hm : X.mg "sorted" = none) (hg2 : Gl X "set") (hm2 : X.mg "set" = none) (ha : PA X [e] (tA (cfg X) W fs))
    (hs1 : starEach [e] X.env = (false, eval e X.env) :: starEach [] X.env := by rfl) (hs2 : starEach [Expr.Call (.Name "set" p2) [e] [] q2] X.env = (false, eval (Expr.Call (.Name "set" p2) [e] [] q2) X.env) :: starEach [] X.env := by rfl) :
    PE X (.Call (.Name "sorted" p1) [.Call (.Name "set" p2) [e] [] q2] [] q1) (tE (cfg X) W (cCall (one gSortSet) fs)) := by
  refine pe_imp (pe_callB ((cr_sortedSet hc).or (cr_sortedT hc)) hg hm (by decide +kernel) (pa_cons (pe_callTy ((cr_setOfI hc).or (cr_setOfTT hc (by omega))) hg2 hm2 (by decide +kernel) ha (he := hs1)) pa_nil hs2) (he := hs2)) fun σ H Q q => ?_
  exact tE_call (okL_one ok_sortSet) q
end
end Fx
/-! Dict comprehensions over an attribute's dict; list(range(n)). -/
namespace Fx
open PySem PySem.Spec L2
/-! ### a hidden object comes forth, and may change -/
theorem out_mut {C : Cfg} {W : WX} {σ : L2.St} {ρ1 ρ2 : Zn} {H1 H2 : Hp} {ro w v1 : List D} {a : Addr} {d : D} {Q : VK} (s1 : RepS C ρ1 H1 v1) (x : Ext ρ1 ⟨ρ2.r, ρ1.h⟩ H1 H2) (hh : ρ2.h = a :: ρ1.h) (s : RepS C ρ2 H2 (ro ++ w)) (ha : H1 a = none)
    (hd : ∀ ρ', ExtR ρ2 ρ' H2 H2 → RepO C ρ' H2 d a) (q : AfterR C (Rep C) W σ ρ1 H1 ro (mNew d ro w) Q) : Q (.ref a) H2 := by
  have am : a ∈ ρ2.h := by rw [hh]; exact List.mem_cons_self
  have an := (s.hid a am).1
  have xe : ExtR ρ2 ⟨ρ2.r ++ [a], ρ1.h⟩ H2 H2 := ⟨⟨[a], rfl⟩, fun b u eb n => ⟨eb, by
    show b ∉ ρ2.r ++ [a]
    rw [List.mem_append, not_or]
    exact ⟨n.1, fun z => n.2 (by rw [List.mem_singleton.mp z]; exact am)⟩, fun z => n.2 (by rw [hh]; exact List.mem_cons_of_mem _ z)⟩⟩
  have se : RepS C ⟨ρ2.r ++ [a], ρ1.h⟩ H2 ((ro ++ w) ++ [d]) := by
    refine ⟨by simp [s.len]; omega, ?_, fun i b d' h1 h2 => ?_, fun b hb => ⟨?_, (s.hid b (by rw [hh]; exact List.mem_cons_of_mem _ hb)).2⟩⟩
    · show (ρ2.r ++ [a]).Nodup
      rw [List.nodup_append]
      refine ⟨s.nd, by simp, fun b hb c hc e' => ?_⟩
      rw [List.mem_singleton] at hc
      rw [e', hc] at hb
      exact an hb
    · replace h1 : (ρ2.r ++ [a])[i]? = some b := h1
      by_cases hi : i < ρ2.r.length
      · rw [List.getElem?_append_left hi] at h1
        rw [List.getElem?_append_left (by rw [← s.len]; exact hi)] at h2
        have q' := s.obj i b d' h1 h2
        cases d' with
        | lst ds => obtain ⟨vs, e, r⟩ := q'; exact ⟨vs, e, Reps.extR xe ds r⟩
        | dic ks ds => obtain ⟨vs, e, k, r⟩ := q'; exact ⟨vs, e, k, Reps.extR xe ds r⟩
        | dct ks ds => obtain ⟨es, ep, as, vs, e, en, nd, rk, r⟩ := q'; exact ⟨es, ep, as, vs, e, en, nd, Reps.extR xe ks rk, Reps.extR xe ds r⟩
        | ins c ns ds => obtain ⟨A, dx, fs, m, e, k, r⟩ := q'; exact ⟨A, dx, fs, m, e, k, Reps.extR xe ds r⟩
        | _ => exact (show False from q').elim
      · have hl := (List.getElem?_eq_some_iff.mp h1).1
        rw [List.length_append, List.length_singleton] at hl
        have ei : i = ρ2.r.length := by omega
        subst ei
        rw [List.getElem?_append_right (Nat.le_refl _), Nat.sub_self] at h1
        rw [List.getElem?_append_right (by rw [s.len]; exact Nat.le_refl _), s.len, Nat.sub_self] at h2
        simp only [List.getElem?_cons_zero, Option.some.injEq] at h1 h2
        subst h1
        subst h2
        exact hd _ xe
    · show b ∉ ρ2.r ++ [a]
      rw [List.mem_append, not_or]
      exact ⟨(s.hid b (by rw [hh]; exact List.mem_cons_of_mem _ hb)).1, fun z => (s1.fresh ha).2 (by rw [← List.mem_singleton.mp z]; exact hb)⟩
  refine q (.ref a) ⟨ρ2.r ++ [a], ρ1.h⟩ H2 ⟨?_, rfl, fun b u eb n => ⟨(x.keep b u eb n).1, ?_, n.2⟩, x.same⟩ ?_ ⟨a, ?_, rfl⟩
  · obtain ⟨ν, p⟩ := x.pre
    exact ⟨ν ++ [a], by show ρ2.r ++ [a] = _; rw [show ρ2.r = ρ1.r ++ ν from p, List.append_assoc]⟩
  · show b ∉ ρ2.r ++ [a]
    rw [List.mem_append, not_or]
    exact ⟨(x.keep b u eb n).2.1, fun z => ne_of_none eb ha (List.mem_singleton.mp z)⟩
  · rw [← List.append_assoc]
    exact se
  · show (ρ2.r ++ [a])[_]? = _
    rw [← s.len, List.getElem?_append_right (Nat.le_refl _), Nat.sub_self]
    rfl
/-! ### a dict comprehension -/
def dcR (t : Tg) (fk fv : EF) (env : Env) : List D → M (List (D × D))
  | [] => M.pure []
  | d :: ds => match t.put d env with
    | none => M.no
    | some env1 => M.bind (M.calm (fk env1)) fun k => M.bind (M.calm (fv env1)) fun x => M.bind (dcR t fk fv env ds) fun r => M.pure ((k, x) :: r)
def okKeys (l : List (D × D)) : Bool := decide ((l.map fun p => keyOf p.1).Nodup) && l.all (fun p => (keyOf p.1).isSome) && decide (l.length < sizeLine)
def kDic (r : List (D × D)) : M D := if okKeys r = true then mNew (.dic (r.map (·.1)) (r.map (·.2))) else M.no
def cDc (t : Tg) (own : List Nat) (it : Env → M (List D)) (fk fv : EF) : EF := fun env => M.bind (few it env) fun ds => M.bind (dcR t fk fv (wipeE env own) ds) kDic
section
variable {X : Cx} {C : Cfg} {W : WX} {σ : L2.St} {ρ : Zn} {H : Hp} {ro w : List D}
theorem kV_rep {k : D} {κ : Key} {v : V} (h : keyOf k = some κ) (r : Rep C ρ H k v) : v = kV κ := by
  cases k with
  | int i => cases h; exact r
  | str i => cases h; exact r
  | _ => cases h
theorem valV_not {kvs : List (Key × V)} {k : Key} (h : k ∉ kvs.map (·.1)) : valV kvs k = none := by
  have e := valV_any (kvs := kvs) (k := k)
  cases q : valV kvs k with
  | none => rfl
  | some v =>
    rw [q] at e
    obtain ⟨p, hp, e2⟩ := List.any_eq_true.mp e
    exact absurd (List.mem_map_of_mem (f := (·.1)) hp) (by rw [of_decide_eq_true e2]; exact h)
theorem dcR_never {t : Tg} {fk fv : EF} {env : Env} : ∀ (ds : List D) {w : List D}, (∃ r w', dcR t fk fv env ds ro w = .ok r w') ∨ dcR t fk fv env ds ro w = .no
  | [], w => .inl ⟨[], w, rfl⟩
  | d :: ds, w => by
    unfold dcR
    cases t.put d env with
    | none => exact .inr rfl
    | some env1 =>
      dsimp only
      unfold M.bind
      rcases calm_never (m := fk env1) (ro := ro) (w := w) rfl with ⟨b, w1, e⟩ | e
      · rw [e]
        dsimp only
        rcases calm_never (m := fv env1) (ro := ro) (w := w1) rfl with ⟨x, w2, e2⟩ | e2
        · rw [e2]
          dsimp only
          rcases dcR_never (t := t) (fk := fk) (fv := fv) (env := env) ds (w := w2) with ⟨r, w3, e3⟩ | e3
          · rw [e3]
            exact .inl ⟨_, _, rfl⟩
          · rw [e3]
            exact .inr rfl
        · rw [e2]
          exact .inr rfl
      · rw [e]
        exact .inr rfl
/-- the turns -/
theorem dc_ok {t : Tg} {own : List Nat} {fk fv : EF} {env : Env} {ds : List D} {J : It} {Qd : Hp → Prop} {w1 : List D} {r : List (D × D)} {wf : List D} {ρ1 : Zn} {H1 : Hp} {D0 : Addr}
    (ht : ∀ i ∈ t.slots, i ∈ own) (walk : Walks C ρ1 H1 ds J) (s1 : RepS C ρ1 H1 (ro ++ w1)) (e1 : RepE C ρ1 H1 env σ) (hD : H1 D0 = none)
    (hr : dcR t fk fv (wipeE env own) ds ro w1 = .ok r wf) (hkeys : okKeys r = true)
    (k : ∀ (ρ2 : Zn) H2 kvs, Ext ρ1 ⟨ρ2.r, ρ1.h⟩ H1 H2 → ρ2.h = D0 :: ρ1.h → RepS C ρ2 H2 (ro ++ wf) → H2 D0 = some (.dK kvs) → (r.map (·.1)).map keyOf = kvs.map (fun p => some p.1) → Reps C ρ2 H2 (r.map (·.2)) (kvs.map (·.2)) → Qd H2) :
    ∃ W : Nat → Nat → Hp → Prop, (∃ m, W 0 m (upd H1 D0 (.dK []))) ∧ ∀ i m H, W i m H →
      (J.stop i H ∧ Qd H) ∨ (J.go i H ∧ ∃ Nx : Hp → Prop, (∀ H', Nx H' → ∃ m', m' < m ∧ W (i + 1) m' H') ∧ ∀ x H', J.yld i H x H' → t.g C.K x (wipe σ own) H' fun σ2 H2 => wipe σ2 own = wipe σ own ∧ tT C W0 cYes σ2 H2 fun b H3 =>
        if b = true then tE C W0 fk σ2 H3 fun y H4 => tE C W0 fv σ2 H4 fun z H5 => ∃ kvs κ, y = kV κ ∧ H5 D0 = some (.dK kvs) ∧ kvs.length < sizeLine ∧ Nx (upd H5 D0 (.dK (putK kvs κ z))) else Nx H3) := by
  unfold okKeys at hkeys
  simp only [Bool.and_eq_true, decide_eq_true_eq, List.all_eq_true] at hkeys
  obtain ⟨⟨hnd, hsome⟩, hlen⟩ := hkeys
  let I : Nat → Hp → Prop := fun i H => ∃ ρ w acc kvs r2, Ext ρ1 ⟨ρ.r, ρ1.h⟩ H1 H ∧ ρ.h = D0 :: ρ1.h ∧ RepS C ρ H (ro ++ w) ∧ RepE C ρ H (wipeE env own) (wipe σ own) ∧ H D0 = some (.dK kvs) ∧ (acc.map fun p : D × D => keyOf p.1) = kvs.map (fun p => some p.1) ∧ Reps C ρ H (acc.map (·.2)) (kvs.map (·.2)) ∧
    dcR t fk fv (wipeE env own) (ds.drop i) ro w = .ok r2 wf ∧ r = acc ++ r2
  have h0 : I 0 (upd H1 D0 (.dK [])) := by
    obtain ⟨x, s⟩ := hide_new (o := .dK []) s1 hD
    exact ⟨ρ1.hide D0, w1, [], [], r, ⟨⟨[], by simp⟩, rfl, fun a o e n => ⟨by rw [upd_ne (ne_of_none e hD)]; exact e, n⟩, fun a ha => upd_ne fun e => (s1.fresh hD).2 (e ▸ ha)⟩, rfl, s, wipeE_ok (e1.extR x) own, upd_same, rfl, rfl, hr, rfl⟩
  refine ⟨fun i m H => i + m = ds.length ∧ I i H, ⟨ds.length, by omega, h0⟩, fun i m H ⟨hm, ρ, w, acc, kvs, r2, xo, hh, s, e, hDv, hks, hacc, hcomp, hr2⟩ => ?_⟩
  have wk := walk i ρ H _ (ext_outR xo hh hD) s
  have hDm : D0 ∈ ρ.h := by rw [hh]; exact List.mem_cons_self
  cases hd : ds[i]? with
  | none =>
    have hl := List.getElem?_eq_none_iff.mp hd
    rw [List.drop_eq_nil_of_le hl] at hcomp
    cases (show (Out.ok [] w : Out (List (D × D))) = .ok r2 wf from hcomp)
    rw [List.append_nil] at hr2
    subst hr2
    exact .inl ⟨wk.2 hd, k ρ H kvs xo hh s hDv (by rw [List.map_map]; exact hks) hacc⟩
  | some d =>
    have hl := (List.getElem?_eq_some_iff.mp hd).1
    have hdrop : ds.drop i = d :: ds.drop (i + 1) := by
      rw [List.drop_eq_getElem_cons hl, (List.getElem?_eq_some_iff.mp hd).2]
    rw [hdrop] at hcomp
    obtain ⟨go, yl⟩ := wk.1 d hd
    refine .inr ⟨go, fun H' => I (i + 1) H', fun H' h => ⟨m - 1, by omega, by omega, h⟩, fun y H' hy => ?_⟩
    obtain ⟨x3, s3, r3⟩ := yl y H' hy
    unfold dcR at hcomp
    cases hput : t.put d (wipeE env own) with
    | none =>
      simp only [hput] at hcomp
      cases hcomp
    | some env1 =>
      simp only [hput] at hcomp
      obtain ⟨kd, w4, hb, hcomp⟩ := bind_ok hcomp
      replace hb := calm_ok hb
      obtain ⟨x, w5, hx, hcomp⟩ := bind_ok hcomp
      replace hx := calm_ok hx
      obtain ⟨r5, w6, hr5, hcomp⟩ := bind_ok hcomp
      cases (show (Out.ok ((kd, x) :: r5) w6 : Out (List (D × D))) = .ok r2 wf from hcomp)
      refine Tg.ok (e.ext x3) r3 hput fun us e3 => ⟨wipe_set ht, ρ, env1, ro, w, s3, e3, ?_⟩
      intro b' ρ3 H3 x3' s3' rb
      cases (show true = b' from rb)
      rw [if_pos rfl]
      have e3' := e3.ext x3'
      have xo3 := ext_out (ext_out xo hh hD x3) hh hD x3'
      have hh3 : ρ3.h = D0 :: ρ1.h := x3'.hid.trans hh
      have hDm3 : D0 ∈ ρ3.h := by rw [hh3]; exact List.mem_cons_self
      have hDv3 : H3 D0 = some (.dK kvs) := by rw [x3'.same D0 hDm, x3.same D0 hDm]; exact hDv
      refine ⟨ρ3, env1, ro, w, s3', e3', ?_⟩
      rw [hb]
      intro kv ρ4 H4 x4 s4 rk
      have e4 := e3'.ext x4
      have xo4 := ext_out xo3 hh3 hD x4
      have hh4 : ρ4.h = D0 :: ρ1.h := x4.hid.trans hh3
      have hDm4 : D0 ∈ ρ4.h := by rw [hh4]; exact List.mem_cons_self
      have hDv4 : H4 D0 = some (.dK kvs) := by rw [x4.same D0 hDm3]; exact hDv3
      refine ⟨ρ4, env1, ro, w4, s4, e4, ?_⟩
      rw [hx]
      intro z ρ5 H5 x5 s5 rz
      have hh5 : ρ5.h = D0 :: ρ1.h := x5.hid.trans hh4
      have hDm5 : D0 ∈ ρ5.h := by rw [hh5]; exact List.mem_cons_self
      have hDv5 : H5 D0 = some (.dK kvs) := by rw [x5.same D0 hDm4]; exact hDv4
      have hacc5 := Reps.ext x5 _ (Reps.ext x4 _ (Reps.ext x3' _ (Reps.ext x3 _ hacc)))
      have hkd : (kd, x) ∈ r := by rw [hr2]; simp
      obtain ⟨κ, eκ⟩ := Option.isSome_iff_exists.mp (hsome _ hkd)
      have hlk : kvs.length = acc.length := by
        have := congrArg List.length hks
        simpa using this.symm
      have hrl : r.length = acc.length + (r5.length + 1) := by rw [hr2]; simp
      have hnk : κ ∉ kvs.map (·.1) := fun hm => by
        rw [hr2, List.map_append, List.nodup_append] at hnd
        have h1 : some κ ∈ acc.map fun p : D × D => keyOf p.1 := by
          rw [hks]
          obtain ⟨p, hp, e⟩ := List.mem_map.mp hm
          exact List.mem_map.mpr ⟨p, hp, by rw [e]⟩
        exact hnd.2.2 _ h1 (some κ) (by simp [eκ]) rfl
      refine ⟨kvs, κ, kV_rep eκ rk, hDv5, by omega, ?_⟩
      rw [putK_new z (valV_not hnk)]
      obtain ⟨x6, s6⟩ := hide_put (o := .dK (kvs ++ [(κ, z)])) s5 hDm5
      refine ⟨ρ5, w5, acc ++ [(kd, x)], kvs ++ [(κ, z)], r5, ext_upd (ext_out xo4 hh4 hD x5) hD (s1.fresh hD).2, hh5, s6, ((((e.ext x3).ext x3').ext x4).ext x5).extR x6, upd_same, ?_, ?_, hr5, by rw [hr2]; simp⟩
      · rw [List.map_append, List.map_append, hks]
        simp [eκ]
      · rw [List.map_append, List.map_append]
        exact (Reps.extR x6 _ hacc5).append (Reps.one (Rep.extR x6 x rz))
end
section
variable {X : Cx} {W : WX} {pos p pos' : Pos} {kx vx tg iter : Expr} {ifs : List Expr} {scope : Scope} {own : List (Str × Nat)} {it : Env → M (List D)} {fk fv : EF} {t : Tg} {x c f : Str} {fs : List Str} {σ : L2.St} {H : Hp} {ρ : Zn}
theorem tE_dc (ht : ∀ i ∈ t.slots, i ∈ own.map (·.2)) {Q : VK} (q : tE (cfg X) W (cDc t (own.map (·.2)) it fk fv) σ H Q) :
    tDc (tI (cfg X) W it) (t.g X.K) (tT (cfg X) W0 cYes) (tE (cfg X) W0 fk) (tE (cfg X) W0 fv) (own.map (·.2)) σ H Q := by
  obtain ⟨ρ, env, ro, w, hS, hE, q⟩ := q
  unfold cDc few at q
  unfold M.bind at q
  refine ⟨ρ, env, ro, w, hS, hE, ?_⟩
  cases ei : it env ro w with
  | no =>
    simp only [M.bind, ei] at q
    exact q
  | exn c ns xs w1 =>
    simp only [M.bind, ei] at q
    exact q
  | ok ds w1 =>
    simp only [M.bind, ei] at q
    by_cases hn : ds.length ≤ sizeLine
    · simp only [if_pos hn] at q
      intro J ρ1 H1 x1 s1 walk D0 hD
      rcases dcR_never (t := t) (fk := fk) (fv := fv) (env := wipeE env (own.map (·.2))) (ro := ro) ds (w := w1) with ⟨r, wf, hr⟩ | hr
      · simp only [hr] at q
        unfold kDic at q
        by_cases hk : okKeys r = true
        · rw [if_pos hk] at q
          refine dc_ok (C := cfg X) ht walk s1 (hE.ext x1) hD hr hk fun ρ2 H2 kvs x2 hh s2 e2 k2 r2 => ?_
          exact out_mut (d := .dic (r.map (·.1)) (r.map (·.2))) s1 x2 hh s2 hD (fun ρ' y => ⟨kvs, e2, k2, Reps.extR y _ r2⟩) (AfterR.ext x1 q)
        · rw [if_neg hk] at q
          exact (show False from q).elim
      · simp only [hr] at q
        exact (show False from q).elim
    · simp only [if_neg hn] at q
      exact (show False from q).elim
/-! ### the keys of an attribute -/
def cKeysA (c : Str) (i : Nat) (f : Str) : Env → M (List D) := fun env _ w => match env[i]? with
  | some (some (.ins c' ns xs)) => if c' = c then (match fieldV ns xs f with
    | some (.dic ks _) => .ok ks w
    | _ => .no) else .no
  | _ => .no
theorem keysA_there {i : Nat} {env : Env} {ro w : List D} {ds w' : List D} (h : cKeysA c i f env ro w = .ok ds w') : ∃ ns xs ys, env[i]? = some (some (.ins c ns xs)) ∧ fieldV ns xs f = some (.dic ds ys) ∧ w' = w := by
  unfold cKeysA at h
  split at h
  · rename_i c' ns xs e
    split at h
    · rename_i ec
      subst ec
      split at h
      · rename_i ks ys e2
        cases h
        exact ⟨ns, xs, ys, e, e2, rfl⟩
      · cases h
    · cases h
  · cases h
def FrzA (X : Cx) (c : Str) (i : Nat) (f : Str) (σ : L2.St) (H : Hp) : Prop := ∃ a0 A dx fl a o kvs, σ[i]? = some (some (.ref a0)) ∧ H a0 = some (.ins A dx fl) ∧ fl.lookup f = some (.ref a) ∧ H a = some (.frz o (.dK kvs))
theorem pi_keysA (T : ClX X.K X.mg c fs) (i : Nat) (hf : f ∈ fs) (hN : X.N[i]? = some x) (hv : Vis X.env.scope x) (hd : (x == ("__debug__" : Str)) = false) (hcd : (x == ("__classdict__" : Str)) = false)
    (hb : attributeBase (.Name x p) f X.env (eval (.Name x p) X.env) = eval (.Name x p) X.env) : PI X tg (.Attribute (.Name x p) f pos) (fun σ H R => FrzA X c i f σ H ∧ tI (cfg X) W (cKeysA c i f) σ H R) :=
  pi_imp (pi_keys (pe_fld (pe_var hN hv hd hcd) hb)) fun σ H R ⟨⟨a0, A, dx, fl, a, o, kvs, e1, e2, e3, e4⟩, ρ, env, ro, w, hS, hE, q⟩ => by
    have q0 : AfterR (cfg X) (fun ρ H ds J => Walks (cfg X) ρ H ds J) W σ ρ H ro (cKeysA c i f env ro w) R := q
    cases ek : cKeysA c i f env ro w with
    | no => rw [ek] at q0; exact (show False from q0).elim
    | exn _ _ _ _ =>
      exfalso
      unfold cKeysA at ek
      split at ek
      · split at ek
        · split at ek <;> cases ek
        · cases ek
      · cases ek
    | ok ds w' =>
      rw [ek] at q0
      obtain ⟨ns, xs, ys, g1, g2, rfl⟩ := keysA_there ek
      obtain ⟨v, h1, a0', A', dx', fl', ev, hm, ho, hins, en, hr⟩ := hE.at' i _ g1
      rw [e1] at h1
      cases h1
      cases ev
      rw [e2] at hins
      cases hins
      subst en
      obtain ⟨v', l', rv⟩ := fieldV_rep g2 hr
      rw [e3] at l'
      cases l'
      obtain ⟨a', kvs', ev', st, k1, k2⟩ := rv
      cases ev'
      obtain ⟨A2, hm2, cl, na⟩ := T.ex
      cases hm.symm.trans hm2
      have ek2 : kvs' = kvs := by
        rcases st.2 with h | ⟨o', h⟩
        · rw [e4] at h
          cases h
        · rw [e4] at h
          cases h
          rfl
      subst ek2
      exact ⟨.ref a0, e1, a0, A, dx, fl, .ref a, rfl, e2, cl, na f hf, e3, a, o, rfl, .inl ⟨kvs', e4, q0 _ ρ H .refl hS (walks_keys st.1 e4 k1)⟩⟩
def cDcA (t : Tg) (own : List Nat) (c : Str) (i : Nat) (f : Str) (fk fv : EF) : EF := fun env => M.calm (cDc t own (cKeysA c i f) fk fv env)
/-- {k: v for t in x.f}, x.f a dict that stands still -/
theorem pf_dcA (i : Nat) (T : ClX X.K X.mg c fs) (ht : ∀ i ∈ t.slots, i ∈ own.map (·.2)) (hc : X.calm = true) (hN : X.N.Nodup) (ok : BlkOk X.N X.env.scope scope own)
    (hg : ∀ (s : Shared) (H : Hp) (C : Addr) (cl : List (Str × Addr)) (fp : List Addr), PG (X.blk s H scope (compEnvC scope cl C X.env) fp) tg (t.g X.K))
    (hk : ∀ (s : Shared) (H : Hp) (C : Addr) (cl : List (Str × Addr)) (fp : List Addr), PE (X.blk s H scope (compEnvC scope cl C X.env) fp) kx (tE (cfg X) W0 fk))
    (he : ∀ (s : Shared) (H : Hp) (C : Addr) (cl : List (Str × Addr)) (fp : List Addr), PE (X.blk s H scope (compEnvC scope cl C X.env) fp) vx (tE (cfg X) W0 fv))
    (hf : f ∈ fs := by decide) (hi : X.N[i]? = some x := by rfl) (hv : Vis X.env.scope x := by first | exact Or.inl rfl | exact Or.inr (Or.inl rfl) | exact Or.inr (Or.inr rfl)) (hd : (x == ("__debug__" : Str)) = false := by decide) (hcd : (x == ("__classdict__" : Str)) = false := by decide)
    (hb : attributeBase (.Name x p) f X.env (eval (.Name x p) X.env) = eval (.Name x p) X.env := by rfl) (hs : ∀ z, foldedSetIterable (.Attribute (.Name x p) f pos') X.env z = pure z := by intro _; rfl) :
    PE X (.DictComp kx vx [⟨tg, .Attribute (.Name x p) f pos', [], 0⟩] scope pos) (tE (cfg X) W (cDcA t (own.map (·.2)) c i f fk fv)) := by
  have base : PE X (.DictComp kx vx [⟨tg, .Attribute (.Name x p) f pos', [], 0⟩] scope pos) (fun σ H Q => FrzA X c i f σ H ∧ tE (cfg X) W (cDc t (own.map (·.2)) (cKeysA c i f) fk fv) σ H Q) :=
    pe_imp (pe_dc hc hN (pi_keysA (W := W) T i hf hi hv hd hcd hb) ok hg (fun _ _ _ _ _ => fts_nil) hk he hs) fun σ H Q ⟨p, q⟩ => ⟨p, tE_dc ht q⟩
  refine ⟨fun pins s σ H Q I q => ?_⟩
  obtain ⟨ρ, env, ro, w, hS, hE, q⟩ := q
  replace q : AfterR (cfg X) (Rep (cfg X)) W σ ρ H ro (M.calm (cDc t (own.map (·.2)) (cKeysA c i f) fk fv env) ro w) Q := q
  rcases calm_never (m := cDc t (own.map (·.2)) (cKeysA c i f) fk fv env) (ro := ro) (w := w) rfl with ⟨d, w', e⟩ | e
  · rw [e] at q
    have ec := calm_ok e
    obtain ⟨ds, w1, h1, h2⟩ := bind_ok ec
    obtain ⟨ds', w2, h3, h4⟩ := bind_ok h1
    obtain ⟨ns, xs, ys, ei, e2, _⟩ := keysA_there h3
    obtain ⟨v, g1, a0, A, dx, fl, ev, hm, ho, hins, en, hr⟩ := hE.at' i _ ei
    subst ev en
    obtain ⟨v', l', a, kvs, ev', st, k1, k2⟩ := fieldV_rep e2 hr
    subst ev'
    rcases st.2 with h | ⟨o, h⟩
    · have hne : a0 ≠ a := fun z => by
        rw [z, h] at hins
        cases hins
      refine (pe_lock base).run pins s σ H Q I ⟨a, .dK kvs, h, trivial, fun od => ⟨⟨a0, A, dx, fl, a, od, kvs, g1, by rw [upd_ne hne]; exact hins, l', upd_same⟩, ρ, env, ro, w, reps_lock h st.1 hS, hE.rde (rde_lock h), ?_⟩⟩
      rw [ec]
      intro v ρ' H' x s' r
      obtain ⟨l1, l2, l3⟩ := ext_locked h st.1 x
      exact ⟨l1, q v ρ' _ l3 (reps_unlock l1 l2 s') (Rep.rde (rde_unlock l1) _ r)⟩
    · exact base.run pins s σ H Q I ⟨⟨a0, A, dx, fl, a, o, kvs, g1, hins, l', h⟩, ρ, env, ro, w, hS, hE, by rw [ec]; exact q⟩
  · rw [e] at q
    exact (show False from q).elim
end
/-! ### list(range(n)) -/
section
variable {X : Cx} {W : WX} {pos p p2 pos2 : Pos} {a : Expr} {fa : EF}
end
section
variable {fa fo : EF} {env : Env} {ro w : List D} {t : Tg} {own : List Nat} {fk fv : EF} {c f : Str} {i : Nat}
end
end Fx
/-! What an own class's __init__ does; a walk over the keys of a dict within a tuple. -/
namespace Fx
open PySem PySem.Spec L2
structure InitOk (P : Program) (w : World) (K : PySem.W.Frag) (mg : Str → Option Value) (base : Heap) (n : Nat) (c : Str) (g : List D → M D) (np : Nat) : Prop where
  ex : ∃ (A f : Addr) (fd : FuncData) (ps : List Str), mg c = some (.ref A) ∧ Mk K A f ∧ Binds K fd ps [] ∧ FnOk P w K mg base (L2.CX P w) n f fd ps (spF ⟨K, mg, w⟩ g (np + 1))
section
variable {X : Cx} {W : WX} {pos p p2 pos' : Pos} {tg iter : Expr} {t : Tg} {x c f : Str} {σ : L2.St} {H : Hp} {ρ : Zn}
theorem atI_some {α : Type} {l : List α} {k : Nat} {v : α} (h : l[k]? = some v) : L2.atI l (k : Int) = some v := by
  have hl := (List.getElem?_eq_some_iff.mp h).1
  unfold L2.atI L2.ixN
  simp [hl]
  exact (List.getElem?_eq_some_iff.mp h).2
end
end Fx
/-! Models: what the program's own functions do. -/
namespace Fx
open PySem PySem.Spec L2
/-! ### plain -/
/-- worlds, what sees what, where each name is true -/
structure Mo where
  n : Nat
  s : Nat → Nat → Bool
  v : List (Str × List Nat)
namespace Mo
def at' (M : Mo) (x : Str) : List Nat := (M.v.lookup x).getD []
def sem (M : Mo) (F : Bool) : Fm → Nat → Bool
  | .fal, _ => false
  | .var x, w => (M.at' x).contains w
  | .and a b, w => M.sem F a w && M.sem F b w
  | .or a b, w => M.sem F a w || M.sem F b w
  | .imp a b, w => if F then (List.range M.n).all fun u => !(M.s w u && (M.sem F a u && !M.sem F b u)) else !(M.sem F a w && !M.sem F b w)
  | .box a, w => (List.range M.n).all fun u => !(M.s w u && !M.sem F a u)
structure Ok (M : Mo) : Prop where
  pos : 0 < M.n
  few : M.n < 25
  names : ∀ p ∈ M.v, PyData.strOk p.1 = true
  nd : (M.v.map (·.1)).Nodup
  asc : ∀ p ∈ M.v, p.2.Pairwise (· < ·) ∧ ∀ w ∈ p.2, w < M.n
  short : M.v.length < 100
end Mo
abbrev nD (i : Nat) : D := .int i
abbrev nsD (l : List Nat) : D := .lst (l.map nD)
def vD (v : List (Str × List Nat)) : D := .dic (v.map fun p => .str p.1) (v.map fun p => nsD p.2)
namespace Mo
def row (M : Mo) (i : Nat) : List Nat := (List.range M.n).filter (M.s i)
def pairs (M : Mo) : List (Nat × Nat) := (List.range M.n).flatMap fun i => (M.row i).map fun j => (i, j)
end Mo
def prD (p : Nat × Nat) : D := .tup [.int p.1, .int p.2]
namespace Mo
def frD (M : Mo) : D := .tup [.int M.n, .tup (M.pairs.map prD)]
def lawD (M : Mo) : D := .tup [.lst ((List.range M.n).map fun i => .lst ((List.range M.n).map fun j => .bl (M.s i j))), vD M.v]
def kept (M : Mo) : List (Str × List Nat) := M.v.filter fun p => !p.2.isEmpty
def D' (M : Mo) : D := .ins "Model" ["_frame", "_seen", "_values"] [M.frD, .lst ((List.range M.n).map fun i => nsD (M.row i)), vD M.kept]
end Mo
def WorldSpec (c : List D → M D) : Prop := ∀ (i n : Int) (ro w : List D), c [.int i, .int n] ro w = .ok (.bl (decide (0 ≤ i ∧ i < n))) w
def h_is_world : SF :=
  sRet (cAnd (cIsi .int (cVar 0)) (cAnd (cNot (cIsi .bl (cVar 0))) (cChain gLe gLt (cK (.int 0)) (cVar 0) (cVar 1))))
def h_is_frame (c_is_world : List D → M D) : SF :=
  sSeq (sAsg (.tp [1, 2]) (cVar 0))
  (sSeq (sIf (cOrT (cTru (cIsi .bl (cVar 1))) (cTest (cBin gLt (cVar 1) (cK (.int 1))))) (sRet (cK (.bl false))) (sNil))
  (sSeq (sFor (.nm 3) (cSeq (cVar 2)) (sIf (cOrT (cTest (cBin gNe (cCall (one gLen) (cArgs [cVar 3])) (cK (.int 2)))) (cOrT (cNotT (cTru (cCall (fun ds => if ds.length = 2 then c_is_world ds else M.no) (cArgs [cBin gIx (cVar 3) (cK (.int 0)), cVar 1])))) (cNotT (cTru (cCall (fun ds => if ds.length = 2 then c_is_world ds else M.no) (cArgs [cBin gIx (cVar 3) (cK (.int 1)), cVar 1])))))) (sRet (cK (.bl false))) (sNil)))
  (sRet (cBin gEq (cCall (one gList) (cArgs [cVar 2])) (cCall (one gSortSet) (cArgs [cVar 2]))))))
def h_Model_frame : SF :=
  sRet (cFld "Model" "_frame" (cVar 0))
def h_Model_true_worlds : SF :=
  sRet (cDcA (.nm 1) [1] "Model" 0 "_values" (cVar 1) (cCall (one gList) (cArgs [cDGet (cFld "Model" "_values" (cVar 0)) (cVar 1)])))
section
variable {ro w : List D} {env : Env}
theorem for_skip {α : Type} {h : α → D} {k : Nat} {s : SF} : ∀ {l : List α} {env : Env}, (∀ a ∈ l, s (env.set k (some (h a))) ro w = .go .nx (env.set k (some (h a))) w) → forL (.nm k) s (l.map h) env ro w = .go .nx (match l.getLast? with
    | none => env
    | some a => env.set k (some (h a))) w
  | [], env, _ => rfl
  | a :: l, env, hs => by
    have ih := for_skip (l := l) (env := env.set k (some (h a))) fun b hb => by
      rw [List.set_set]
      exact hs b (List.mem_cons_of_mem _ hb)
    rw [List.map_cons, for_nm, hs a (by simp), tn_nx, ih]
    congr 1
    rw [List.getLast?_cons]
    cases l.getLast? with
    | none => rfl
    | some b => simp
end
theorem world_ok : WorldSpec (runDef 2 2 h_is_world) := by
  intro i n ro w
  by_cases h : 0 ≤ i <;> simp [x_def, h_is_world, isTy, h]
theorem pr_pairs {l : List (Nat × Nat)} (h : ∀ p ∈ l, p.1 < 64 ∧ p.2 < 64) : asPairs (l.map prD) = some (l.map fun p => [(p.1 : Int), (p.2 : Int)]) := by
  induction l with
  | nil => rfl
  | cons p l ih =>
    have hp := h p (by simp)
    have e : asPair (prD p) = some [(p.1 : Int), (p.2 : Int)] := by
      show (if (0 ≤ (p.1 : Int) ∧ (p.1 : Int) < 64) ∧ (0 ≤ (p.2 : Int) ∧ (p.2 : Int) < 64) then some [(p.1 : Int), (p.2 : Int)] else none) = _
      rw [if_pos (by omega)]
    rw [List.map_cons, List.map_cons]
    unfold asPairs
    rw [e, ih fun q hq => h q (List.mem_cons_of_mem _ hq)]
theorem asc_self {α : Type} {f : α → Int} : ∀ {l : List α}, Asc f l → setK f l = l
  | [], _ => rfl
  | x :: l, h => by
    obtain ⟨h1, h2⟩ := List.pairwise_cons.mp h
    show insK f x (setK f l) = _
    rw [asc_self h2]
    cases l with
    | nil => rfl
    | cons y l => 
      unfold insK
      rw [if_pos (h1 y (by simp))]
/-- ascending pairs, below n -/
def PairsOk (n : Nat) (l : List (Nat × Nat)) : Prop := (∀ p ∈ l, p.1 < n ∧ p.2 < n) ∧ l.Pairwise (fun p q => p.1 * 64 + p.2 < q.1 * 64 + q.2) ∧ l.length < 64
def FrameSpec (c : List D → M D) : Prop := ∀ (n : Nat) (l : List (Nat × Nat)) (ro w : List D), 0 < n → n < 64 → PairsOk n l → c [.tup [.int n, .tup (l.map prD)]] ro w = .ok (.bl true) w
theorem prs_eqo {l : List (Nat × Nat)} : (D.lst (l.map prD)).eqo = true := by
  refine eqo_of ?_ ?_ ?_
  · show D.nbs _ = true
    exact nbs_iff.mpr fun d hd => by obtain ⟨p, _, rfl⟩ := List.mem_map.mp hd; rfl
  · show D.lays _ = true
    exact lays_iff.mpr fun d hd => by obtain ⟨p, _, rfl⟩ := List.mem_map.mp hd; rfl
  · have : D.dps (l.map prD) ≤ 1 := dps_iff.mpr fun d hd => by obtain ⟨p, _, rfl⟩ := List.mem_map.mp hd; exact Nat.le_refl _
    simp only [D.dp]
    omega
theorem set_prs {n : Nat} {l : List (Nat × Nat)} (hn : n < 64) (h : PairsOk n l) {ro w : List D} : gSortSet (.tup (l.map prD)) ro w = .ok (.lst (l.map prD)) w := by
  obtain ⟨h1, h2, h3⟩ := h
  have ep := pr_pairs (l := l) fun p hp => by have := h1 p hp; omega
  have e : setK pairK (l.map fun p => [(p.1 : Int), (p.2 : Int)]) = l.map fun p => [(p.1 : Int), (p.2 : Int)] := by
    refine asc_self (List.pairwise_map.mpr (h2.imp fun {p q} h => ?_))
    rw [pairK_two, pairK_two]
    omega
  have es : sortSet (.tup (l.map prD)) = some (l.map prD) := by
    simp only [sortSet, ep, List.length_map, h3, if_true, e, List.map_map]
    rfl
  unfold gSortSet
  rw [es]
theorem frame_ok {c : List D → M D} (hc : WorldSpec c) : FrameSpec (runDef 1 4 (h_is_frame c)) := by
  intro n l ro w h0 hn hp
  have hl := for_skip (h := prD) (k := 3) (l := l) (ro := ro) (w := w) (env := [some (.tup [.int n, .tup (l.map prD)]), some (.int n), some (.tup (l.map prD)), none])
    (s := sIf (cOrT (cTest (cBin gNe (cCall (one gLen) (cArgs [cVar 3])) (cK (.int 2)))) (cOrT (cNotT (cTru (cCall (fun ds => if ds.length = 2 then c ds else M.no) (cArgs [cBin gIx (cVar 3) (cK (.int 0)), cVar 1])))) (cNotT (cTru (cCall (fun ds => if ds.length = 2 then c ds else M.no) (cArgs [cBin gIx (cVar 3) (cK (.int 1)), cVar 1])))))) (sRet (cK (.bl false))) (sNil))
    fun p hq => by
      have hb := hp.1 p hq
      have e1 : (0 : Int) ≤ (p.1 : Int) ∧ (p.1 : Int) < n := by omega
      have e2 : (0 : Int) ≤ (p.2 : Int) ∧ (p.2 : Int) < n := by omega
      simp [prD, hc _ _ _ _, e1, e2]
  have ht : Tg.put (.tp [1, 2]) (.tup [.int n, .tup (l.map prD)]) [some (.tup [.int n, .tup (l.map prD)]), none, none, none] = some [some (.tup [.int n, .tup (l.map prD)]), some (.int n), some (.tup (l.map prD)), none] := rfl
  have ha := x_asg (f := cVar 0) (t := .tp [1, 2]) (ro := ro) (w := w) (w1 := w) (d := .tup [.int n, .tup (l.map prD)]) rfl ht
  have hz : ¬ ((n : Int) < 1) := by omega
  simp only [x_def, h_is_frame, List.length_singleton, if_true, List.map_cons, List.map_nil, Nat.reduceSub, List.replicate, List.cons_append, List.nil_append, x_seq, ha, oan_nx]
  cases q : l.getLast? with
  | none =>
    rw [q] at hl
    simp [x_for, hl, isTy, hz, set_prs hn hp, eq_eqo prs_eqo prs_eqo]
  | some p =>
    rw [q] at hl
    simp [x_for, hl, isTy, hz, set_prs hn hp, eq_eqo prs_eqo prs_eqo]
end Fx
/-! Models: a new one. -/
namespace Fx
open PySem PySem.Spec L2
section
variable {ro w : List D} {env : Env}
theorem see_at {k : Nat} {d : D} (h : w[k]? = some d) : see ro w (.ref (ro.length + k)) = d := by
  rw [see_ref, List.getElem?_append_right (by omega), Nat.add_sub_cancel_left, h]
  rfl
theorem see_at0 {d : D} {w : List D} : see ro (d :: w) (.ref ro.length) = d := see_at (k := 0) rfl
theorem dput_at {n : Nat} {v k : D} {ks xs : List D} (h : w[n]? = some (.dic ks xs)) (hk : (keyOf k).isSome = true) (hl : ks.length < sizeLine) : gDPut v (.ref (ro.length + n)) k ro w = .ok .non (w.set n (dput ks xs k v)) := by
  unfold gDPut
  simp [h, hk, hl]
theorem append_at {n : Nat} {d : D} {ds : List D} (h : w[n]? = some (.lst ds)) (hl : ds.length < sizeLine) : gAppend [d] (.ref (ro.length + n)) ro w = .ok .non (w.set n (.lst (ds ++ [d]))) := by
  unfold gAppend
  have := mod_at (ro := ro) (w := w) (n := ro.length + n) (ds := ds) (f := fun es => if es.length < sizeLine then some (.non, es ++ [d]) else none) (d := .non) (ds' := ds ++ [d]) (by omega) (by rw [Nat.add_sub_cancel_left]; exact h) (by simp [hl])
  rw [Nat.add_sub_cancel_left] at this
  exact this
/-- new lists, one a turn -/
theorem comp_new {k : Nat} : ∀ (ds : List D) (w : List D), compR (.nm k) cYes (cLstM (cArgs [])) env ds ro w = .ok ((List.range ds.length).map fun i => .ref (ro.length + (w.length + i))) (w ++ List.replicate ds.length (.lst []))
  | [], w => by simp
  | d :: ds, w => by
    rw [comp_nm]
    simp only [x_yes, calm_ok', an_ok, if_true, x_lstM, x_args0, comp_new ds]
    simp only [List.length_cons, List.range_succ_eq_map, List.map_cons, List.map_map, List.length_append, List.length_nil, List.append_assoc, List.replicate_succ]
    congr 1
    · congr 1
      refine List.map_congr_left fun i _ => ?_
      show D.ref _ = D.ref _
      congr 1
      simp
      omega
end
def rowsOf (n : Nat) (l : List (Nat × Nat)) : List (List Nat) := (List.range n).map fun i => (l.filter fun p => p.1 == i).map (·.2)
theorem rows_step {n : Nat} {l : List (Nat × Nat)} {p : Nat × Nat} (h : p.1 < n) : rowsOf n (l ++ [p]) = (rowsOf n l).set p.1 (((l.filter fun q => q.1 == p.1).map (·.2)) ++ [p.2]) := by
  apply List.ext_getElem?
  intro i
  unfold rowsOf
  rw [List.getElem?_set]
  by_cases hi : i < n
  · by_cases e : p.1 = i
    · subst e
      simp [h]
    · have e' : ¬ (p.1 == i) = true := by simpa using e
      simp [hi, e, e']
  · have : ¬ p.1 = i := by omega
    simp [hi, this]
theorem rows_get {n i : Nat} {l : List (Nat × Nat)} (h : i < n) : (rowsOf n l)[i]? = some ((l.filter fun p => p.1 == i).map (·.2)) := by
  unfold rowsOf
  simp [h]
def sSeen : SF := sExpr (cMl gAppend (cBin gIx (cFld "Model" "_seen" (cVar 0)) (cVar 3)) (cArgs [cVar 4]))
theorem for_tp2 {i j : Nat} {x y : D} {ds : List D} {s : SF} {env : Env} {ro w : List D} : forL (.tp [i, j]) s (.tup [x, y] :: ds) env ro w = (s ((env.set i (some x)).set j (some y)) ro w).turn fun env2 w2 => forL (.tp [i, j]) s ds env2 ro w2 := for_cons rfl
theorem seen_loop {n : Nat} {ns : List Str} {xs tl : List D} {ro : List D} {b c e5 e6 : Option D} (hf : fieldV ns xs "_seen" = some (.ref (ro.length + (n + 1)))) : ∀ (l2 l1 : List (Nat × Nat)) (e3 e4 : Option D), (∀ p ∈ l2, p.1 < n) → l1.length + l2.length < 1000 →
    ∃ e3' e4', forL (.tp [3, 4]) sSeen (l2.map prD) [some (.ref ro.length), b, c, e3, e4, e5, e6] ro (.ins "Model" ns xs :: ((rowsOf n l1).map nsD ++ .lst ((List.range n).map fun i => .ref (ro.length + (1 + i))) :: tl)) =
      .go .nx [some (.ref ro.length), b, c, e3', e4', e5, e6] (.ins "Model" ns xs :: ((rowsOf n (l1 ++ l2)).map nsD ++ .lst ((List.range n).map fun i => .ref (ro.length + (1 + i))) :: tl))
  | [], l1, e3, e4, _, _ => ⟨e3, e4, by simp⟩
  | p :: l2, l1, e3, e4, h, hl => by
    have hp := h p (by simp)
    obtain ⟨e3', e4', ih⟩ := seen_loop (b := b) (c := c) (e5 := e5) (e6 := e6) (tl := tl) hf l2 (l1 ++ [p]) (some (.int p.1)) (some (.int p.2)) (fun q hq => h q (List.mem_cons_of_mem _ hq)) (by simp at hl ⊢; omega)
    refine ⟨e3', e4', ?_⟩
    rw [List.map_cons, show prD p = .tup [.int p.1, .int p.2] from rfl, for_tp2]
    have lr : (rowsOf n l1).length = n := by simp [rowsOf]
    have s1 : (.ins "Model" ns xs :: ((rowsOf n l1).map nsD ++ .lst ((List.range n).map fun i => .ref (ro.length + (1 + i))) :: tl) : List D)[n + 1]? = some (.lst ((List.range n).map fun i => .ref (ro.length + (1 + i)))) := by
      rw [List.getElem?_cons_succ, List.getElem?_append_right (by simp [lr])]
      simp [lr]
    have s2 : (.ins "Model" ns xs :: ((rowsOf n l1).map nsD ++ .lst ((List.range n).map fun i => .ref (ro.length + (1 + i))) :: tl) : List D)[1 + p.1]? = some (nsD ((l1.filter fun q => q.1 == p.1).map (·.2))) := by
      rw [Nat.add_comm, List.getElem?_cons_succ, List.getElem?_append_left (by simp [lr, hp]), List.getElem?_map, rows_get hp]
      rfl
    have s3 : gIx (.lst ((List.range n).map fun i => D.ref (ro.length + (1 + i)))) (.int p.1) ro (.ins "Model" ns xs :: ((rowsOf n l1).map nsD ++ .lst ((List.range n).map fun i => .ref (ro.length + (1 + i))) :: tl)) = .ok (.ref (ro.length + (1 + p.1))) (.ins "Model" ns xs :: ((rowsOf n l1).map nsD ++ .lst ((List.range n).map fun i => .ref (ro.length + (1 + i))) :: tl)) := by
      rw [ix_lst, atI_nat]
      simp [hp]
    have hsz : sizeLine = 16777216 := rfl
    have hfl : (l1.filter fun q => q.1 == p.1).length ≤ l1.length := List.length_filter_le _ _
    have s4 := append_at (ro := ro) (d := .int p.2) s2 (by simp at hl ⊢; omega)
    have body : sSeen [some (.ref ro.length), b, c, some (.int p.1), some (.int p.2), e5, e6] ro (.ins "Model" ns xs :: ((rowsOf n l1).map nsD ++ .lst ((List.range n).map fun i => .ref (ro.length + (1 + i))) :: tl)) =
        .go .nx [some (.ref ro.length), b, c, some (.int p.1), some (.int p.2), e5, e6] (.ins "Model" ns xs :: ((rowsOf n (l1 ++ [p])).map nsD ++ .lst ((List.range n).map fun i => .ref (ro.length + (1 + i))) :: tl)) := by
      unfold sSeen
      rw [x_expr, x_ml, x_bin, x_fld]
      simp only [x_var, List.getElem?_cons_zero, List.getElem?_cons_succ, ofO_ss, an_ok, see_at0, fld_ins hf, see_at s1, see_int, s3, see_at s2, mlV_lst, x_args, x_args0, s4, st_ok]
      congr 1
      rw [rows_step hp, List.map_set, Nat.add_comm 1 p.1, List.set_cons_succ, List.set_append_left _ _ (by simp [lr, hp])]
      simp [nsD, nD, Function.comp_def]
    rw [show (([some (.ref ro.length), b, c, e3, e4, e5, e6] : Env).set 3 (some (.int p.1))).set 4 (some (.int p.2)) = [some (.ref ro.length), b, c, some (.int p.1), some (.int p.2), e5, e6] from rfl, body, tn_nx, ih]
    simp
/-! ### the values -/
def srt (l : List Nat) : List Nat := setK (fun i : Nat => (i : Int)) l
theorem srt_map : ∀ (l : List Nat), setK id (l.map fun i : Nat => (i : Int)) = (srt l).map fun i : Nat => (i : Int)
  | [] => rfl
  | x :: l => by
    have e : ∀ (m : List Nat), insK id (x : Int) (m.map fun i : Nat => (i : Int)) = (insK (fun i : Nat => (i : Int)) x m).map fun i : Nat => (i : Int) := by
      intro m
      induction m with
      | nil => rfl
      | cons y m ih =>
        simp only [List.map_cons, insK, id]
        split
        · rfl
        · split
          · rfl
          · rw [List.map_cons, ← ih]
    show insK id (x : Int) (setK id (l.map fun i : Nat => (i : Int))) = (insK _ x (srt l)).map _
    rw [srt_map l, e]
theorem sortSet_ns {l : List Nat} {ro w : List D} (h : l.length < 64) : gSortSet (nsD l) ro w = .ok (nsD (srt l)) w := by
  have e0 : (l.map nD) = ((l.map fun i : Nat => (i : Int)).map D.int) := by rw [List.map_map]; rfl
  have ea : asInts (l.map nD) = some (l.map fun i : Nat => (i : Int)) := by
    rw [e0]
    exact asInts_map _
  have e : sortSet (nsD l) = some ((srt l).map nD) := by
    simp only [sortSet, ea, List.length_map, h, if_true, srt_map, List.map_map]
    rfl
  unfold gSortSet
  rw [e]
def keptS (v : List (Str × List Nat)) : List (Str × List Nat) := (v.filter fun p => !p.2.isEmpty).map fun p => (p.1, srt p.2)
def vks (v : List (Str × List Nat)) : List D := v.map fun p => .str p.1
def vxs (v : List (Str × List Nat)) : List D := v.map fun p => nsD p.2
theorem vD_eq (v : List (Str × List Nat)) : vD v = .dic (vks v) (vxs v) := rfl
theorem dget_v : ∀ {v : List (Str × List Nat)} {p : Str × List Nat}, (v.map (·.1)).Nodup → p ∈ v → dget (vks v) (vxs v) (.str p.1) = some (nsD p.2)
  | [], p, _, h => by cases h
  | q :: v, p, nd, h => by
    rw [List.map_cons, List.nodup_cons] at nd
    show (if keyOf (.str q.1) = keyOf (.str p.1) then some (nsD q.2) else dget (vks v) (vxs v) (.str p.1)) = _
    rcases List.mem_cons.mp h with e | h
    · subst e
      rw [if_pos rfl]
    · have ne : ¬ keyOf (.str q.1) = keyOf (.str p.1) := by
        simp only [keyOf_str, Option.some.injEq, Sum.inr.injEq]
        intro e
        exact nd.1 (by rw [e]; exact List.mem_map_of_mem h)
      rw [if_neg ne]
      exact dget_v nd.2 h
theorem dhas_v {v : List (Str × List Nat)} {x : Str} (h : x ∉ v.map (·.1)) : dhas (vks v) (.str x) = false := by
  unfold dhas vks
  rw [List.any_eq_false]
  intro d hd
  obtain ⟨p, hp, rfl⟩ := List.mem_map.mp hd
  simp only [keyOf_str, Option.some.injEq, Sum.inr.injEq, decide_eq_true_eq]
  intro e
  exact h (by rw [← e]; exact List.mem_map_of_mem hp)
theorem kept_names {v : List (Str × List Nat)} {x : Str} (h : x ∈ (keptS v).map (·.1)) : x ∈ v.map (·.1) := by
  unfold keptS at h
  simp only [List.map_map, List.mem_map, List.mem_filter, Function.comp] at h
  obtain ⟨p, ⟨hp, _⟩, rfl⟩ := h
  exact List.mem_map_of_mem hp
/-! ### the whole -/
def frD (n : Nat) (l : List (Nat × Nat)) : D := .tup [.int n, .tup (l.map prD)]
def initW (b n : Nat) (l : List (Nat × Nat)) (v : List (Str × List Nat)) : List D :=
  (.ins "Model" ["_frame", "_seen", "_values"] [frD n l, .ref (b + (n + 1)), .ref (b + (n + 2))] :: ((rowsOf n l).map nsD ++ [.lst ((List.range n).map fun i => .ref (b + (1 + i)))])) ++ [vD (keptS v)]
structure ValsOk (n : Nat) (v : List (Str × List Nat)) : Prop where
  nd : (v.map (·.1)).Nodup
  rng : ∀ p ∈ v, (∀ i ∈ p.2, i < n) ∧ p.2.length < 64
  few : v.length < 1000
/-! ### told -/
mutual
theorem tell_self {φ : Nat → Option D} : ∀ d : D, D.under 0 d = true → D.tell φ d = some d
  | .ref n, h => by simp [D.under] at h
  | .tup ds, h => by
    unfold D.tell
    rw [tells_self ds (by simpa [D.under] using h)]
    rfl
  | .lst ds, h => by
    unfold D.tell
    rw [tells_self ds (by simpa [D.under] using h)]
    rfl
  | .dic ks ds, h => by
    unfold D.tell
    rw [tells_self ds (by simpa [D.under] using h)]
    rfl
  | .dct ks ds, h => by
    unfold D.tell
    rw [tells_self ds (by simpa [D.under] using h)]
    rfl
  | .ins c ns ds, h => by
    unfold D.tell
    rw [tells_self ds (by simpa [D.under] using h)]
    rfl
  | .non, h => rfl
  | .bl _, h => rfl
  | .int _, h => rfl
  | .str _, h => rfl
  | .fn _, h => rfl
  | .rng _, h => rfl
theorem tells_self {φ : Nat → Option D} : ∀ ds : List D, D.unders 0 ds = true → D.tells φ ds = some ds
  | [], h => rfl
  | d :: ds, h => by
    simp only [D.unders, Bool.and_eq_true] at h
    unfold D.tells
    rw [tell_self d h.1, tells_self ds h.2]
end
theorem unders_iff {n : Nat} : ∀ {ds : List D}, D.unders n ds = true ↔ ∀ d ∈ ds, D.under n d = true
  | [] => by simp [D.unders]
  | d :: ds => by simp [D.unders, unders_iff (ds := ds)]
theorem under_ns {n : Nat} {l : List Nat} : D.under n (nsD l) = true := by
  show D.unders n (l.map nD) = true
  exact unders_iff.mpr fun d hd => by obtain ⟨i, _, rfl⟩ := List.mem_map.mp hd; rfl
theorem under_fr {k n : Nat} {l : List (Nat × Nat)} : D.under k (frD n l) = true := by
  have : D.unders k (l.map prD) = true := unders_iff.mpr fun d hd => by obtain ⟨i, _, rfl⟩ := List.mem_map.mp hd; rfl
  simp [frD, D.under, D.unders, this]
theorem under_v {k : Nat} {v : List (Str × List Nat)} : D.under k (vD v) = true := by
  show D.unders k (v.map fun p => nsD p.2) = true
  exact unders_iff.mpr fun d hd => by obtain ⟨i, _, rfl⟩ := List.mem_map.mp hd; exact under_ns
theorem tells_maps {α : Type} {φ : Nat → Option D} {f g : α → D} : ∀ {l : List α}, (∀ a ∈ l, D.tell φ (f a) = some (g a)) → D.tells φ (l.map f) = some (l.map g)
  | [], _ => rfl
  | a :: l, h => by
    rw [List.map_cons, List.map_cons]
    unfold D.tells
    rw [h a (by simp), tells_maps fun b hb => h b (List.mem_cons_of_mem _ hb)]
theorem told_at {b k m : Nat} {w : List D} {d : D} (h : w[m]? = some d) : told b w (k + 1) (b + m) = D.tell (told b w k) d := by
  unfold told
  rw [if_neg (by omega), Nat.add_sub_cancel_left, h]
def modD (n : Nat) (l : List (Nat × Nat)) (v : List (Str × List Nat)) : D := .ins "Model" ["_frame", "_seen", "_values"] [frD n l, .lst ((rowsOf n l).map nsD), vD (keptS v)]
theorem told_model {b n : Nat} {l : List (Nat × Nat)} {v : List (Str × List Nat)} : told b (initW b n l v) 4 b = some (modD n l v) := by
  have lr : (rowsOf n l).length = n := by simp [rowsOf]
  have w0 : (initW b n l v)[0]? = some (.ins "Model" ["_frame", "_seen", "_values"] [frD n l, .ref (b + (n + 1)), .ref (b + (n + 2))]) := rfl
  have w1 : (initW b n l v)[n + 1]? = some (.lst ((List.range n).map fun i => .ref (b + (1 + i)))) := by
    unfold initW
    rw [List.getElem?_append_left (by simp [lr]), List.getElem?_cons_succ, List.getElem?_append_right (by simp [lr])]
    simp [lr]
  have w2 : (initW b n l v)[n + 2]? = some (vD (keptS v)) := by
    unfold initW
    rw [List.getElem?_append_right (by simp [lr])]
    simp [lr]
  have w3 : ∀ i ∈ List.range n, (initW b n l v)[1 + i]? = some (nsD ((l.filter fun p => p.1 == i).map (·.2))) := fun i hi => by
    have hi := List.mem_range.mp hi
    unfold initW
    rw [Nat.add_comm 1 i, List.getElem?_append_left (by simp [lr]; omega), List.getElem?_cons_succ, List.getElem?_append_left (by simp [lr, hi]), List.getElem?_map, rows_get hi]
    rfl
  have t0 : ∀ i ∈ List.range n, D.tell (told b (initW b n l v) 2) (.ref (b + (1 + i))) = some (nsD ((l.filter fun p => p.1 == i).map (·.2))) := fun i hi => by
    unfold D.tell
    exact (told_at (k := 1) (w3 i hi)).trans (tell_self _ under_ns)
  have t1 : told b (initW b n l v) 3 (b + (n + 1)) = some (.lst ((rowsOf n l).map nsD)) := by
    rw [told_at w1]
    unfold D.tell
    rw [tells_maps (f := fun i => D.ref (b + (1 + i))) (g := fun i => nsD ((l.filter fun p => p.1 == i).map (·.2))) t0]
    simp [rowsOf, List.map_map, Function.comp_def]
  have t2 : told b (initW b n l v) 3 (b + (n + 2)) = some (vD (keptS v)) := by
    rw [told_at w2]
    exact tell_self _ under_v
  have w4 : told b (initW b n l v) 4 b = _ := told_at (b := b) (k := 3) (m := 0) w0
  rw [w4]
  simp only [D.tell, D.tells, t1, t2]
  rw [show D.tell (told b (initW b n l v) 3) (frD n l) = some (frD n l) from tell_self _ under_fr]
  rfl
end Fx
/-! Models: their methods, the worlds at which a formula is true. -/
namespace Fx
open PySem PySem.Spec L2
namespace Mo
variable {A : Mo}
theorem row_lt {i j : Nat} (h : j ∈ A.row i) : j < A.n := List.mem_range.mp (List.mem_filter.mp h).1
theorem row_asc (i : Nat) : (A.row i).Pairwise (· < ·) := List.Pairwise.filter _ List.pairwise_lt_range
theorem row_len (i : Nat) : (A.row i).length ≤ A.n := by
  have := List.length_filter_le (A.s i) (List.range A.n)
  rw [List.length_range] at this
  exact this
theorem blocks (h : A.n < 25) : ∀ m, m ≤ A.n → ((∀ p ∈ ((List.range m).flatMap fun i => (A.row i).map fun j => (i, j)), p.1 < A.n ∧ p.2 < A.n) ∧ ((List.range m).flatMap fun i => (A.row i).map fun j => (i, j)).Pairwise (fun p q => p.1 * 64 + p.2 < q.1 * 64 + q.2)) ∧ ((List.range m).flatMap fun i => (A.row i).map fun j => (i, j)).length ≤ m * A.n ∧ ∀ p ∈ ((List.range m).flatMap fun i => (A.row i).map fun j => (i, j)), p.1 < m
  | 0, _ => ⟨⟨by simp, by simp⟩, by simp, by simp⟩
  | m + 1, hm => by
    obtain ⟨⟨a1, a2⟩, b, c⟩ := blocks h m (by omega)
    rw [List.range_succ, List.flatMap_append]
    have hs : ([m].flatMap fun i => (A.row i).map fun j => (i, j)) = (A.row m).map fun j => (m, j) := by simp
    rw [hs]
    have hl := row_len (A := A) m
    have hml : (m + 1) * A.n = m * A.n + A.n := by rw [Nat.add_mul, Nat.one_mul]
    have hlen : ((List.range m).flatMap fun i => (A.row i).map fun j => (i, j)).length + ((A.row m).map fun j => (m, j)).length ≤ (m + 1) * A.n := by
      rw [List.length_map, hml]
      omega
    refine ⟨⟨fun p hp => ?_, List.pairwise_append.mpr ⟨a2, ?_, fun p hp q hq => ?_⟩⟩, by rw [List.length_append]; exact hlen, fun p hp => ?_⟩
    · rcases List.mem_append.mp hp with hp | hp
      · exact a1 p hp
      · obtain ⟨j, hj, rfl⟩ := List.mem_map.mp hp
        exact ⟨by show m < A.n; omega, row_lt hj⟩
    · refine List.pairwise_map.mpr ((row_asc m).imp fun {x y} hxy => ?_)
      show m * 64 + x < m * 64 + y
      omega
    · obtain ⟨j, hj, rfl⟩ := List.mem_map.mp hq
      have h1 := c p hp
      have h2 := a1 p hp
      show p.1 * 64 + p.2 < m * 64 + j
      omega
    · rcases List.mem_append.mp hp with hp | hp
      · have := c p hp
        omega
      · obtain ⟨j, hj, rfl⟩ := List.mem_map.mp hp
        exact Nat.lt_succ_self m
theorem pairs_ok (h : A.n < 25) (hp : A.pairs.length < 64) : PairsOk A.n A.pairs := ⟨(blocks h A.n (Nat.le_refl _)).1.1, (blocks h A.n (Nat.le_refl _)).1.2, hp⟩
theorem prs_few (h : A.n ≤ 7) : A.pairs.length < 64 := by
  have h1 : A.pairs.length ≤ A.n * A.n := (blocks (by omega) A.n (Nat.le_refl _)).2.1
  have h2 : A.n * A.n ≤ 7 * 7 := Nat.mul_le_mul h h
  omega
theorem flat_one {α : Type} {X : List α} {i : Nat} : ∀ m, ((List.range m).flatMap fun j => if j = i then X else []) = if i < m then X else []
  | 0 => rfl
  | m + 1 => by
    rw [List.range_succ, List.flatMap_append, flat_one m]
    by_cases e : m = i
    · subst e
      simp
    · by_cases h : i < m
      · have : i < m + 1 := by omega
        simp [h, e, this]
      · have : ¬ i < m + 1 := by omega
        simp [h, e, this]
theorem rows_eq : rowsOf A.n A.pairs = (List.range A.n).map A.row := by
  unfold rowsOf pairs
  refine List.map_congr_left fun i hi => ?_
  have hi := List.mem_range.mp hi
  rw [List.filter_flatMap]
  have e : (fun k => ((A.row k).map fun j => (k, j)).filter fun p => p.1 == i) = fun k => if k = i then (A.row i).map fun j => (i, j) else [] := by
    funext k
    by_cases c : k = i
    · subst c
      have : (A.row k).filter (fun _ => true) = A.row k := List.filter_eq_self.mpr (fun _ _ => rfl)
      simp [List.filter_map, Function.comp_def, this]
    · simp [List.filter_map, Function.comp_def, c]
  rw [e, flat_one, if_pos hi]
  simp [Function.comp_def]
structure Good (A : Mo) : Prop where
  pos : 0 < A.n
  few : A.n < 25
  nd : (A.v.map (·.1)).Nodup
  asc : ∀ p ∈ A.v, p.2.Pairwise (· < ·) ∧ ∀ w ∈ p.2, w < A.n
  short : A.v.length < 100
  prs : A.pairs.length < 64
theorem asc_len : ∀ {l : List Nat} {a n : Nat}, l.Pairwise (· < ·) → (∀ w ∈ l, a ≤ w ∧ w < n) → l.length + a ≤ max n a
  | [], a, n, _, _ => by simp; omega
  | x :: l, a, n, h, hb => by
    obtain ⟨h1, h2⟩ := List.pairwise_cons.mp h
    have hx := hb x (by simp)
    have := asc_len (a := x + 1) (n := n) h2 fun w hw => ⟨h1 w hw, (hb w (List.mem_cons_of_mem _ hw)).2⟩
    simp only [List.length_cons]
    omega
def progD (A : Mo) : D := .ins "Model" ["_frame", "_seen", "_values"] [A.frD, .lst ((List.range A.n).map fun i => nsD (A.row i)), vD A.kept]
end Mo
def FrSpec (A : Mo) (f : List D → M D) : Prop := ∀ ro w, f [A.progD] ro w = .ok A.frD w
def TwSpec (A : Mo) (f : List D → M D) : Prop := ∀ ro w, f [A.progD] ro w = .ok (vD A.kept) w
section
variable {ro w : List D} {env : Env}
@[simp] theorem see_insD {c : Str} {ns : List Str} {xs : List D} : see ro w (.ins c ns xs) = .ins c ns xs := rfl
theorem fr_ok {A : Mo} : FrSpec A (runDef 1 1 h_Model_frame) := fun ro w => by
  have z := fld_ins (ro := ro) (w := w) (c := "Model") (f := "_frame") (ns := ["_frame", "_seen", "_values"]) (xs := [A.frD, .lst ((List.range A.n).map fun i => nsD (A.row i)), vD A.kept]) (x := A.frD) (by simp [fieldV])
  simp [x_def, h_Model_frame, Mo.progD, z]
theorem tw_run {A : Mo} (hM : A.Good) (ro : List D) : runDef 1 2 h_Model_true_worlds [A.progD] ro [] = .ok (.ref ro.length) [vD A.kept] := by
  have hs : sizeLine = 16777216 := rfl
  have nd : (A.kept.map (·.1)).Nodup := by
    have : (A.kept.map (·.1)).Sublist (A.v.map (·.1)) := List.Sublist.map _ List.filter_sublist
    exact this.nodup hM.nd
  have kl : A.kept.length < 100 := by
    have := List.length_filter_le (fun p : Str × List Nat => !p.2.isEmpty) A.v
    have := hM.short
    unfold Mo.kept
    omega
  have dc : ∀ (v : List (Str × List Nat)), (∀ p ∈ v, p ∈ A.kept) → ∀ ro w, dcR (.nm 1) (cVar 1) (cCall (one gList) (cArgs [cDGet (cFld "Model" "_values" (cVar 0)) (cVar 1)])) [some A.progD, none] (vks v) ro w = .ok (v.map fun p => (.str p.1, nsD p.2)) w := by
    intro v
    induction v with
    | nil => intro _ ro w; rfl
    | cons p v ih =>
      intro hv ro w
      have z : ∀ w, gFld "Model" "_values" A.progD ro w = .ok (vD A.kept) w := fun w => fld_ins (by simp [fieldV, ofString_inj])
      have g : ∀ w, gDGet (vD A.kept) (.str p.1) ro w = .ok (nsD p.2) w := fun w => dget_eq (by simp) (dget_v nd (hv p (by simp)))
      show dcR _ _ _ _ (.str p.1 :: vks v) ro w = _
      unfold dcR
      have e : Tg.put (.nm 1) (.str p.1) [some A.progD, none] = some [some A.progD, some (.str p.1)] := rfl
      simp only [e, x_bind, x_calm, x_var, List.getElem?_cons_zero, List.getElem?_cons_succ, ofO_ss, calm_ok', an_ok, x_call, x_args, x_args0, x_dget, x_fld, show ∀ w, see ro w A.progD = A.progD from fun _ => rfl, z, show ∀ w, see ro w (vD A.kept) = vD A.kept from fun _ => rfl, g, x_one, see_lst, list_lst, ih (fun q hq => hv q (List.mem_cons_of_mem _ hq)) ro w, x_pure]
      rfl
  have ks : okKeys (A.kept.map fun p => (D.str p.1, nsD p.2)) = true := by
    unfold okKeys
    simp only [Bool.and_eq_true, decide_eq_true_eq, List.all_eq_true, List.map_map, List.length_map, hs]
    refine ⟨⟨?_, fun q hq => ?_⟩, by omega⟩
    · have : ((fun p : D × D => keyOf p.1) ∘ fun p : Str × List Nat => (D.str p.1, nsD p.2)) = (fun x : Str => some (Sum.inr x)) ∘ (·.1) := rfl
      rw [this, ← List.map_map]
      exact List.Pairwise.map _ (fun a b (h : a ≠ b) => by simpa using h) nd
    · obtain ⟨p, _, rfl⟩ := List.mem_map.mp hq
      rfl
  have kk : cKeysA "Model" 0 "_values" [some A.progD, none] ro [] = .ok (vks A.kept) [] := by
    unfold cKeysA
    simp [Mo.progD, fieldV, ofString_inj, vD_eq]
  have hl : (vks A.kept).length ≤ sizeLine := by simp [vks, hs]; omega
  rw [x_def]
  simp only [List.length_singleton, if_true, List.map_cons, List.map_nil, Nat.reduceSub, List.replicate, List.cons_append, List.nil_append]
  unfold h_Model_true_worlds
  rw [x_ret]
  have : cDcA (.nm 1) [1] "Model" 0 "_values" (cVar 1) (cCall (one gList) (cArgs [cDGet (cFld "Model" "_values" (cVar 0)) (cVar 1)])) [some A.progD, none] ro [] = .ok (.ref ro.length) [vD A.kept] := by
    show M.calm (cDc _ _ _ _ _ _) _ _ = _
    unfold cDc few
    simp only [x_calm, x_bind, kk, an_ok, hl, if_true]
    rw [show wipeE ([some A.progD, none] : Env) [1] = [some A.progD, none] from rfl, dc A.kept (fun _ h => h)]
    simp only [an_ok]
    unfold kDic
    rw [if_pos ks]
    simp [vD_eq, vks, vxs, Function.comp_def]
  rw [this]
  rfl
theorem tw_ok {A : Mo} (hM : A.Good) : TwSpec A (pureD (runDef 1 2 h_Model_true_worlds)) := fun ro w => by
  have run := tw_run hM (ro ++ w)
  unfold pureD
  simp only [run]
  rw [show D.tell (told (ro ++ w).length [vD A.kept] 4) (.ref (ro ++ w).length) = some (vD A.kept) from by
    unfold D.tell
    have := told_at (b := (ro ++ w).length) (k := 3) (m := 0) (w := [vD A.kept]) rfl
    exact this.trans (tell_self _ under_v)]
end
end Fx
/-! Models: the worlds at which a formula is true. -/
namespace Fx
open PySem PySem.Spec L2
abbrev SOk (x : Str) : Prop := PyData.strOk x = true
section
variable {ro w : List D} {env : Env} {A : Mo}
theorem ns_eqo {l : List Nat} : (nsD l).eqo = true := by
  have : nsD l = .lst ((l.map fun i : Nat => (i : Int)).map .int) := by rw [List.map_map]; rfl
  rw [this]
  exact eqo_ints
end
/-! ### where a name is true -/
theorem lk_cons {x y : Str} {m : List Nat} {v : List (Str × List Nat)} : ((y, m) :: v : List (Str × List Nat)).lookup x = if x = y then some m else v.lookup x := by
  rw [List.lookup_cons]
  by_cases e : x = y
  · rw [if_pos e, beq_iff_eq.mpr e]
  · rw [if_neg e, beq_eq_false_iff_ne.mpr e]
theorem lk_mem {v : List (Str × List Nat)} {x : Str} {l : List Nat} (h : v.lookup x = some l) : (x, l) ∈ v := by
  induction v with
  | nil => cases h
  | cons p v ih =>
    obtain ⟨y, m⟩ := p
    rw [lk_cons] at h
    by_cases e : x = y
    · subst e
      simp at h
      subst h
      simp
    · rw [if_neg e] at h
      exact List.mem_cons_of_mem _ (ih h)
end Fx
/-! Models: what the law says of them. -/
namespace Fx
open PySem PySem.Spec L2
def seenD (A : Mo) : D := .lst ((List.range A.n).map fun i => .lst ((List.range A.n).map fun j => .bl (A.s i j)))
section
variable {ro w : List D} {env : Env} {A : Mo}
theorem for_ret {α : Type} {h : α → D} {k : Nat} {s : SF} {p : α → Bool} {d : D} : ∀ {l : List α} (e0 : Option D), (∀ a ∈ l, s (env.set k (some (h a))) ro w = if p a = true then .go (.rt d) (env.set k (some (h a))) w else .go .nx (env.set k (some (h a))) w) →
    ∃ e', forL (.nm k) s (l.map h) (env.set k e0) ro w = if l.any p = true then .go (.rt d) (env.set k e') w else .go .nx (env.set k e') w
  | [], e0, _ => ⟨e0, rfl⟩
  | a :: l, e0, hs => by
    have h1 := hs a (by simp)
    obtain ⟨e', ih⟩ := for_ret (l := l) (some (h a)) fun b hb => hs b (List.mem_cons_of_mem _ hb)
    rw [List.map_cons, for_nm, List.set_set, h1]
    cases q : p a with
    | true => exact ⟨some (h a), by simp [q]⟩
    | false => exact ⟨e', by simp [q, ih]⟩
theorem seen_i {i : Nat} (h : i < A.n) : gIx (seenD A) (.int i) ro w = .ok (.lst ((List.range A.n).map fun j => .bl (A.s i j))) w := by
  unfold seenD
  simp [atI_nat, h]
theorem seen_j {i j : Nat} (h : j < A.n) : gIx (.lst ((List.range A.n).map fun j => D.bl (A.s i j))) (.int j) ro w = .ok (.bl (A.s i j)) w := by
  simp [atI_nat, h]
theorem rng_n (h : A.n < 25) : gRng1 [.int A.n] ro w = .ok ((List.range A.n).map nD) w := by
  rw [rng1_nat (by omega), rngD_nat]
/-! ### where -/
/-! ### the program's form of it -/
def gridL (n m : Nat) : List (Nat × Nat) := (List.range n).flatMap fun i => (List.range m).map fun j => (i, j)
theorem pairs_grid : (gridL A.n A.n).filter (fun p => A.s p.1 p.2) = A.pairs := by
  unfold gridL Mo.pairs Mo.row
  rw [List.filter_flatMap]
  congr 1
  funext i
  rw [List.filter_map]
  rfl
theorem grid_len {n m : Nat} : (gridL n m).length = n * m := by
  unfold gridL
  induction n with
  | zero => simp
  | succ n ih =>
    rw [List.range_succ, List.flatMap_append, List.length_append, ih]
    simp [Nat.add_mul]
end
end Fx
/-! Models: how the law draws them. -/
namespace Fx
open PySem PySem.Spec L2
section
variable {ro w : List D} {env : Env}
theorem put_at {n : Nat} {k : Int} {v : D} {ds : List D} {j : Nat} (h : w[n]? = some (.lst ds)) (hj : L2.ixN ds.length k = some j) : gPut v (.ref (ro.length + n)) (.int k) ro w = .ok .non (w.set n (.lst (ds.set j v))) := by
  unfold gPut mMod
  simp [h, hj]
abbrev bD (bs : List Bool) : D := .lst (bs.map .bl)
structure Sq (n : Nat) (bss : List (List Bool)) : Prop where
  len : bss.length = n
  all : ∀ bs ∈ bss, bs.length = n
theorem Sq.at {n : Nat} {bss : List (List Bool)} (h : Sq n bss) {i j : Nat} (hi : i < n) (hj : j < n) : ∃ bs b, bss[i]? = some bs ∧ bs.length = n ∧ bs[j]? = some b := by
  have hl := h.len
  have h1 : bss[i]? = some (bss[i]'(by omega)) := List.getElem?_eq_getElem (by omega)
  have h2 := h.all _ (List.mem_of_getElem? h1)
  exact ⟨_, _, h1, h2, List.getElem?_eq_getElem (by omega)⟩
theorem Sq.put {n : Nat} {bss : List (List Bool)} (h : Sq n bss) {i j : Nat} {bs : List Bool} {b : Bool} (hb : bss[i]? = some bs) : Sq n (bss.set i (bs.set j b)) :=
  ⟨by rw [List.length_set]; exact h.len, fun x hx => by
    rcases List.mem_or_eq_of_mem_set hx with hx | hx
    · exact h.all x hx
    · subst hx
      rw [List.length_set]
      exact h.all _ (List.mem_of_getElem? hb)⟩
/-- rows that may change, behind them the list of them -/
def cW (b n : Nat) (bss : List (List Bool)) : List D := bss.map bD ++ [.lst ((List.range n).map fun i => .ref (b + i))]
theorem cW_refs {b n : Nat} {bss : List (List Bool)} (h : Sq n bss) : (cW b n bss)[n]? = some (.lst ((List.range n).map fun i => .ref (b + i))) := by
  unfold cW
  rw [List.getElem?_append_right (by simp [h.len])]
  simp [h.len]
theorem cW_row {b n i : Nat} {bss : List (List Bool)} (h : Sq n bss) (hi : i < n) {bs : List Bool} (hb : bss[i]? = some bs) : (cW b n bss)[i]? = some (bD bs) := by
  unfold cW
  rw [List.getElem?_append_left (by simp [h.len, hi]), List.getElem?_map, hb]
  rfl
theorem cW_set {b n i : Nat} {bss : List (List Bool)} (h : Sq n bss) (hi : i < n) {bs : List Bool} : (cW b n bss).set i (bD bs) = cW b n (bss.set i bs) := by
  unfold cW
  rw [List.set_append_left _ _ (by simp [h.len, hi]), List.map_set]
/-- pairs[a] -/
theorem rd1 {n i a : Nat} {bss : List (List Bool)} (h : Sq n bss) (hi : i < n) (h3 : env[3]? = some (some (.ref (ro.length + n)))) (ha : env[a]? = some (some (nD i))) : cBin gIx (cVar 3) (cVar a) env ro (cW ro.length n bss) = .ok (.ref (ro.length + i)) (cW ro.length n bss) := by
  rw [x_bin]
  simp only [x_var, h3, ha, ofO_ss, an_ok, see_at (cW_refs h), see_int, ix_lst, atI_nat]
  simp [hi]
theorem wr {n i j a c : Nat} {fv : EF} {b : Bool} {bss : List (List Bool)} (h : Sq n bss) (hi : i < n) (hj : j < n) (h3 : env[3]? = some (some (.ref (ro.length + n)))) (ha : env[a]? = some (some (nD i))) (hc : env[c]? = some (some (nD j))) (hv : fv env ro (cW ro.length n bss) = .ok (.bl b) (cW ro.length n bss)) :
    ∃ bss', sPut (cBin gIx (cVar 3) (cVar a)) (cVar c) fv env ro (cW ro.length n bss) = .go .nx env (cW ro.length n bss') ∧ Sq n bss' := by
  obtain ⟨bs, b0, h1, h2, h4⟩ := h.at hi hj
  refine ⟨bss.set i (bs.set j b), ?_, h.put h1⟩
  have p := put_at (ro := ro) (w := cW ro.length n bss) (n := i) (k := (j : Int)) (v := .bl b) (ds := bs.map .bl) (j := j) (cW_row h hi h1) (by rw [ixN_nat]; simp [h2, hj])
  rw [x_put, hv]
  simp only [st_ok, rd1 h hi h3 ha, x_var, hc, ofO_ss, p]
  rw [show D.lst ((bs.map D.bl).set j (.bl b)) = bD (bs.set j b) from by unfold bD; rw [List.map_set], cW_set h hi]
end
end Fx
/-! Models: how the law draws them, continued. -/
namespace Fx
open PySem PySem.Spec L2
def sRow : SF := (sSeq (sSet 11 (cComp (.nm 15) [15] (cRng1 (cArgs [cVar 4])) (cYes) (cBin gEq (cBin gBand (cBin gShr (cVar 5) (cBin gAdd (cBin gMul (cVar 8) (cVar 4)) (cVar 15))) (cK (.int 1))) (cK (.int 1))) kStill))
  (sSeq (sIf (cTest (cBin gIn (cVar 1) (cTup (cArgs [cK (.str "GL"), cK (.str "Grz"), cK (.str "Int"), cK (.str "KC"), cK (.str "LC"), cK (.str "BD2"), cK (.str "HT"), cK (.str "Cl")])))) (sSet 11 (cComp (.nm 15) [15] (cRng1 (cArgs [cVar 4])) (cYes) (cAnd (cBin gIx (cVar 11) (cVar 15)) (cBin gLt (cVar 8) (cVar 15))) kStill)) (sNil))
  (sSeq (sIf (cTest (cBin gIn (cVar 1) (cTup (cArgs [cK (.str "LC"), cK (.str "HT")])))) (sSet 11 (cComp (.nm 15) [15] (cRng1 (cArgs [cVar 4])) (cYes) (cBin gLt (cVar 8) (cVar 15)) kStill)) (sNil))
  (sSeq (sIf (cTest (cBin gIn (cVar 1) (cTup (cArgs [cK (.str "KC")])))) (sSet 11 (cComp (.nm 15) [15] (cRng1 (cArgs [cVar 4])) (cYes) (cOr (cBin gIx (cVar 11) (cVar 15)) (cAnd (cBin gEq (cVar 15) (cBin gSub (cVar 4) (cK (.int 1)))) (cBin gLt (cVar 8) (cVar 15)))) kStill)) (sNil))
  (sSeq (sIf (cTest (cBin gIn (cVar 1) (cTup (cArgs [cK (.str "BD2")])))) (sSet 11 (cComp (.nm 15) [15] (cRng1 (cArgs [cVar 4])) (cYes) (cAnd (cBin gIx (cVar 11) (cVar 15)) (cChain gLt gLe (cVar 8) (cBin gDiv (cVar 4) (cK (.int 2))) (cVar 15))) kStill)) (sNil))
  (sSeq (sIf (cTest (cBin gEq (cVar 1) (cK (.str "Cl")))) (sSet 11 (cBin gMulF (cLst (cArgs [cK (.bl false)])) (cVar 4))) (sNil))
  (sExpr (cMl gAppend (cVar 7) (cArgs [cVar 11])))))))))
def sPqr : SF := (sSeq (sSet 12 (cBin gIx (cK (.str "pqr")) (cVar 10)))
  (sSeq (sSet 13 (cK (.int 0)))
  (sSeq (sIf (cTest (cBin gGt (cCall (one gLen) (cArgs [cVar 0])) (cBin gAdd (cK (.int 3)) (cVar 10)))) (sSet 13 (cBin gMod (cCall (one gInt) (cArgs [cBin gIx (cVar 0) (cBin gAdd (cK (.int 3)) (cVar 10))])) (cBin gShl (cK (.int 1)) (cVar 4)))) (sNil))
  (sSeq (sSet 14 (cComp (.nm 15) [15] (cRng1 (cArgs [cVar 4])) (cTest (cBin gEq (cBin gBand (cBin gShr (cVar 13) (cVar 15)) (cK (.int 1))) (cK (.int 1)))) (cVar 15) kStill))
  (sSeq (sIf (cTest (cBin gIn (cVar 1) (cTup (cArgs [cK (.str "Int"), cK (.str "KC"), cK (.str "LC"), cK (.str "BD2"), cK (.str "HT"), cK (.str "Cl")])))) (sSet 14 (cComp (.nm 15) [15] (cRng1 (cArgs [cVar 4])) (cTest (cBin gIn (cK (.bl true)) (cComp (.nm 8) [8] (cSeq (cVar 14)) (cYes) (cBin gIx (cBin gIx (cVar 7) (cVar 8)) (cVar 15)) kStill))) (cVar 15) kStill)) (sNil))
  (sDPutF (cVar 9) (cVar 12) (cVar 14)))))))
section
variable {ro w : List D} {env : Env}
/-- the env of _law_model while a row is made -/
def rE (x : Str) (n : Nat) (bi : Int) (b v : Nat) (a : Nat → Option D) (e11 : Option D) : Env := [a 0, some (.str x), a 2, a 3, some (nD n), some (.int bi), a 6, some (.ref b), some (nD v), a 9, a 10, e11, a 12, a 13, a 14, none]
end
def hM (c_law_closed : List D → M D) : SF :=
  sSeq (sSet 3 (cK (.int 0)))
  (sSeq (sIf (cTest (cBin gNe (cVar 0) (cLst (cArgs [])))) (sSet 3 (cCall (one gInt) (cArgs [cBin gIx (cVar 0) (cK (.int 0))]))) (sNil))
  (sSeq (sSet 4 (cBin gAdd (cK (.int 1)) (cBin gMod (cVar 3) (cVar 2))))
  (sSeq (sSet 5 (cBin gDiv (cVar 3) (cK (.int 8))))
  (sSeq (sFor (.nm 6) (cSeq (cSl (cVar 0) (cPart (cK (.int 1))) (cPart (cK (.int 3))))) (sSet 5 (cBin gAdd (cBin gMul (cVar 5) (cK (.int 4096))) (cCall (one gInt) (cArgs [cVar 6])))))
  (sSeq (sTell (sSeq (sSet 7 (cLstM (cArgs []))) (sFor (.nm 8) (cRng1 (cArgs [cVar 4])) sRow)))
  (sSeq (sIf (cAndT (cTest (cBin gEq (cVar 1) (cK (.str "HT")))) (cTest (cBin gGt (cVar 4) (cK (.int 2))))) (sSet 7 (cComp (.nm 8) [8] (cRng1 (cArgs [cVar 4])) (cYes) (cComp (.nm 15) [15] (cRng1 (cArgs [cVar 4])) (cYes) (cAnd (cBin gLt (cVar 8) (cVar 15)) (cBin gEq (cBin gDiv (cVar 8) (cK (.int 2))) (cBin gDiv (cVar 15) (cK (.int 2))))) kStill) kStill)) (sNil))
  (sSeq (sSet 7 (cCall (fun ds => if ds.length = 2 then c_law_closed ds else M.no) (cArgs [cVar 7, cVar 1])))
  (sSeq (sSet 9 (cDNew))
  (sSeq (sFor (.nm 10) (cRng1 (cArgs [cK (.int 3)])) sPqr)
  (sRet (cTup (cArgs [cVar 7, cVar 9]))))))))))))

section
variable {ro w : List D} {env : Env}
/-! ### the values -/
theorem sub_ns {n : Nat} {l : List Nat} (h : l.Sublist (List.range n)) : l.Pairwise (· < ·) ∧ ∀ i ∈ l, i < n :=
  ⟨List.Pairwise.sublist h List.pairwise_lt_range, fun i hi => List.mem_range.mp (h.subset hi)⟩
/-! ### the whole -/
/-- a drawn model: three names -/
structure Drawn (most : Nat) (A : Mo) : Prop where
  good : A.Good
  most : A.n ≤ most
  names : A.v.map (·.1) = (["p", "q", "r"] : List Str)
end
end Fx
/-! Models: any model that the law draws. -/
namespace Fx
open PySem PySem.Spec L2
section
variable {env : Env} {r : List D}
/-- the env of _law_wide_model -/
def wE (mo de : Int) (n : Nat) (e4 e5 e6 e7 e8 : Option D) : Env := [some (.ref 0), some (.int mo), some (nD n), some (.int de), e4, e5, e6, e7, e8]
end
end Fx
/-! Models of the intermediate logics: what the law's drawing gives. -/
namespace Fx
open PySem PySem.Spec L2
/-- what the law asks of the name of an intermediate logic -/
structure IntX (x : Str) : Prop where
  ok : SOk x
  c1 : ([.str "K", .str "D", .str "K4", .str "D4", .str "GL"] : List D).any (fun d => d.eqs (.str x)) = false
  c2 : x ≠ "S5"
  c3 : ([.str "D", .str "D4"] : List D).any (fun d => d.eqs (.str x)) = false
  c4 : ([.str "K", .str "D", .str "T"] : List D).any (fun d => d.eqs (.str x)) = false
  c5 : ([.str "Int", .str "KC", .str "LC", .str "BD2", .str "HT", .str "Cl"] : List D).any (fun d => d.eqs (.str x)) = true
def intL : List Str := ["Int", "KC", "LC", "BD2", "HT", "Cl"]
section
variable {ro w : List D} {env : Env}
end
section
variable {ro w : List D} {env : Env}
end
end Fx
/-! Models of the intermediate logics, continued. -/
namespace Fx
open PySem PySem.Spec L2
/-- reflexive, transitive, what is true stays true -/
structure IntM (A : Mo) : Prop where
  refl : ∀ v, v < A.n → A.s v v = true
  trans : ∀ u v w, u < A.n → v < A.n → w < A.n → A.s u v = true → A.s v w = true → A.s u w = true
  pers : ∀ p ∈ A.v, ∀ i ∈ p.2, ∀ j, j < A.n → A.s i j = true → j ∈ p.2
section
variable {ro w : List D} {env : Env}
end
end Fx
/-! What is forced stays; forcing is truth of the translation. -/
namespace Fx
open PySem PySem.Spec L2
namespace Mo
variable {A : Mo}
theorem imp_iff {a b : Fm} {w : Nat} : A.sem true (.imp a b) w = true ↔ ∀ u, u < A.n → A.s w u = true → A.sem true a u = true → A.sem true b u = true := by
  show ((List.range A.n).all fun u => !(A.s w u && (A.sem true a u && !A.sem true b u))) = true ↔ _
  rw [List.all_eq_true]
  constructor
  · intro h u hu hs ha
    have := h u (List.mem_range.mpr hu)
    simpa [hs, ha] using this
  · intro h u hu
    have := h u (List.mem_range.mp hu)
    by_cases c1 : A.s w u = true <;> by_cases c2 : A.sem true a u = true
    · simp [c1, c2, this c1 c2]
    · simp [c2]
    · simp [c1]
    · simp [c1]
/-- a world that sees itself alone -/
theorem alone (φ : Fm) (hp : φ.plain = true) {v : Nat} (hv : v < A.n) (h : ∀ u, u < A.n → (A.s v u = true ↔ u = v)) : A.sem true φ v = A.sem false φ v := by
  induction φ with
  | fal => rfl
  | var x => rfl
  | and a b iha ihb =>
    simp only [Fm.plain, Bool.and_eq_true] at hp
    simp only [Mo.sem, iha hp.1, ihb hp.2]
  | or a b iha ihb =>
    simp only [Fm.plain, Bool.and_eq_true] at hp
    simp only [Mo.sem, iha hp.1, ihb hp.2]
  | imp a b iha ihb =>
    simp only [Fm.plain, Bool.and_eq_true] at hp
    rw [Bool.eq_iff_iff, imp_iff]
    have e : A.sem false (.imp a b) v = !(A.sem false a v && !A.sem false b v) := rfl
    rw [e, ← iha hp.1, ← ihb hp.2]
    constructor
    · intro k
      have := k v hv ((h v hv).mpr rfl)
      cases q : A.sem true a v with
      | false => rfl
      | true => simp [this q]
    · intro k u hu hs ha
      have := (h u hu).mp hs
      subst this
      simp only [ha, Bool.true_and, Bool.not_not] at k
      exact k
  | box a _ => simp [Fm.plain] at hp
end Mo
end Fx
/-! Formulas put for variables; telling. -/
namespace Fx
open PySem PySem.Spec L2
/-! ### telling -/
mutual
theorem tell_und {φ : Nat → Option D} {n : Nat} (hφ : ∀ m, m < n → φ m = some (.ref m)) : ∀ d : D, D.under n d = true → D.tell φ d = some d
  | .ref m, h => by
    unfold D.tell
    exact hφ m (by simpa [D.under] using h)
  | .tup ds, h => by
    unfold D.tell
    rw [tells_und hφ ds (by simpa [D.under] using h)]
    rfl
  | .lst ds, h => by
    unfold D.tell
    rw [tells_und hφ ds (by simpa [D.under] using h)]
    rfl
  | .dic ks ds, h => by
    unfold D.tell
    rw [tells_und hφ ds (by simpa [D.under] using h)]
    rfl
  | .dct ks ds, h => by
    unfold D.tell
    rw [tells_und hφ ds (by simpa [D.under] using h)]
    rfl
  | .ins c ns ds, h => by
    unfold D.tell
    rw [tells_und hφ ds (by simpa [D.under] using h)]
    rfl
  | .non, h => rfl
  | .bl _, h => rfl
  | .int _, h => rfl
  | .str _, h => rfl
  | .fn _, h => rfl
  | .rng _, h => rfl
theorem tells_und {φ : Nat → Option D} {n : Nat} (hφ : ∀ m, m < n → φ m = some (.ref m)) : ∀ ds : List D, D.unders n ds = true → D.tells φ ds = some ds
  | [], h => rfl
  | d :: ds, h => by
    simp only [D.unders, Bool.and_eq_true] at h
    unfold D.tells
    rw [tell_und hφ d h.1, tells_und hφ ds h.2]
end
theorem told_low {b k m : Nat} {w : List D} (h : m < b) : told b w (k + 1) m = some (.ref m) := by
  unfold told
  rw [if_pos h]
/-- nothing in the variables is newer than n -/
def undE (n : Nat) (env : Env) : Bool := env.all fun o => match o with
  | none => true
  | some d => D.under n d
theorem undE_tell {b k : Nat} {x : List D} {env : Env} (h : undE b env = true) : env.map (fun o => o.bind (D.tell (told b x (k + 1)))) = env := by
  unfold undE at h
  rw [List.all_eq_true] at h
  calc env.map (fun o => o.bind (D.tell (told b x (k + 1)))) = env.map id := List.map_congr_left fun o ho => by
        have := h o ho
        cases o with
        | none => rfl
        | some d => exact tell_und (fun m hm => told_low hm) d this
    _ = env := List.map_id _
theorem ints_und {k : Nat} {ns : List Int} : D.under k (.lst (ns.map .int)) = true := unders_iff.mpr fun d hd => by obtain ⟨i, _, rfl⟩ := List.mem_map.mp hd; rfl
/-! ### a drawn formula, and what is left behind -/
/-! ### formulas for variables -/
abbrev FV := List (Str × Fm)
def sb (v : FV) : Fm → Fm
  | .var x => (v.lookup x).getD (.var x)
  | .fal => .fal
  | .imp a b => .imp (sb v a) (sb v b)
  | .and a b => .and (sb v a) (sb v b)
  | .or a b => .or (sb v a) (sb v b)
  | .box a => .box (sb v a)
/-! ### the model of the instances -/
/-! ### dict == dict -/
end Fx
/-! Two models side by side. -/
namespace Fx
open PySem PySem.Spec L2
namespace Mo
variable {A B : Mo}
end Mo
end Fx
/-! Each once; two models side by side: the walk. -/
namespace Fx
open PySem PySem.Spec L2 PyProof.Rows PySem.W
/-! ### numbers -/
theorem nD_inj (a b : Nat) (h : nD a = nD b) : a = b := by
  have : (a : Int) = b := D.int.inj h
  omega
def natS : Sk Nat := ⟨nD, nD_inj, fun _ => rfl, fun _ _ => rfl, fun _ => rfl, 0, by decide, fun _ => rfl⟩
/-! ### the walk of disjoint -/
section
variable {A B : Mo} {ro w : List D} {env : Env}
theorem prog_und {k : Nat} : D.under k A.progD = true := by
  have h1 : D.under k (.lst ((List.range A.n).map fun i => nsD (A.row i))) = true := unders_iff.mpr fun d hd => by obtain ⟨i, _, rfl⟩ := List.mem_map.mp hd; exact under_ns
  show D.unders k [A.frD, _, vD A.kept] = true
  simp only [D.unders, h1, under_v, Bool.true_and, Bool.and_true]
  exact under_fr
end
end Fx
/-! Dicts of worlds that are equal in another order. -/
namespace Fx
open PySem PySem.Spec L2
theorem nd_len {α : Type} [DecidableEq α] : ∀ {l m : List α}, l.Nodup → (∀ a ∈ l, a ∈ m) → l.length ≤ m.length
  | [], m, _, _ => Nat.zero_le _
  | a :: l, m, hn, h => by
    rw [List.nodup_cons] at hn
    have ha := h a (by simp)
    have := nd_len (l := l) (m := m.erase a) hn.2 fun b hb => (List.mem_erase_of_ne (fun e : b = a => hn.1 (e ▸ hb))).mpr (h b (List.mem_cons_of_mem _ hb))
    rw [List.length_erase_of_mem ha] at this
    have : 0 < m.length := List.length_pos_of_mem ha
    simp only [List.length_cons]
    omega
end Fx
/-! Dict comprehensions over anything; over the keys of a dict. -/
namespace Fx
open PySem PySem.Spec L2
section
variable {X : Cx} {W : WX} {pos p pos' : Pos} {kx vx tg iter : Expr} {scope : Scope} {own : List (Str × Nat)} {it : Env → M (List D)} {fk fv : EF} {t : Tg} {x : Str} {σ : L2.St} {H : Hp} {ρ : Zn}
end
section
variable {ro w : List D} {env : Env} {t : Tg} {own : List Nat} {it : Env → M (List D)} {fk fv : EF} {ds : List D} {w1 w2 : List D} {r : List (D × D)}
end
end Fx
/-! The part of a model that can be reached: plain. -/
namespace Fx
open PySem PySem.Spec L2 PyProof.Rows PySem.W
/-! ### pairs, sorted -/
theorem prD_inj (a b : Nat × Nat) (h : prD a = prD b) : a = b := by
  have h := D.tup.inj h
  simp only [List.cons.injEq, and_true] at h
  have h1 : (a.1 : Int) = b.1 := D.int.inj h.1
  have h2 : (a.2 : Int) = b.2 := D.int.inj h.2
  exact Prod.ext (by omega) (by omega)
theorem akI {x y : Int} : So.akin (.int x) (.int y) = true := by rw [So.akin]
theorem pr_akin (p q : Nat × Nat) : So.akin (prD p).py (prD q).py = true := by
  show So.akin (.tuple [.int (p.1 : Int), .int (p.2 : Int)]) (.tuple [.int (q.1 : Int), .int (q.2 : Int)]) = true
  rw [So.akin]
  have h : So.akinAll [.int (p.2 : Int)] [.int (q.2 : Int)] = true := akc akI ak0
  rw [So.akinAll, akI, h]
  simp
def prS : Sk (Nat × Nat) := ⟨prD, prD_inj, fun _ => rfl, pr_akin, fun _ => rfl, 2, by decide, fun _ => rfl⟩
namespace Mo
variable {A : Mo} {v : Nat} {S T R : List Nat}
theorem mem_row {u j : Nat} : j ∈ A.row u ↔ j < A.n ∧ A.s u j = true := by
  unfold row
  rw [List.mem_filter, List.mem_range]
def Cl (A : Mo) (S : List Nat) : Prop := ∀ i ∈ S, ∀ j ∈ A.row i, j ∈ S
/-- the least closed set with v -/
structure Gen (A : Mo) (v : Nat) (S : List Nat) : Prop where
  base : v ∈ S
  lt : ∀ i ∈ S, i < A.n
  cl : A.Cl S
  least : ∀ T : List Nat, v ∈ T → A.Cl T → ∀ i ∈ S, i ∈ T
theorem Gen.same (h1 : Gen A v S) (h2 : Gen A v T) : ∀ i, i ∈ S ↔ i ∈ T := fun i => ⟨h1.least T h2.base h2.cl i, h2.least S h1.base h1.cl i⟩
/-- one round of the law -/
def stepL (A : Mo) (R : List Nat) : List Nat := dd (natS.sort (R ++ R.flatMap A.row))
def rounds (A : Mo) (v : Nat) : Nat → List Nat
  | 0 => [v]
  | k + 1 => stepL A (rounds A v k)
/-- the part on some worlds -/
def sub (A : Mo) (L : List Nat) : Mo where
  n := L.length
  s i j := A.s (L.getD i 0) (L.getD j 0)
  v := A.kept.map fun p => (p.1, (List.range L.length).filter fun k => p.2.contains (L.getD k 0))
variable {L : List Nat}
theorem getD_mem {k : Nat} (h : k < L.length) : L.getD k 0 ∈ L := by
  rw [List.getD_eq_getElem?_getD, List.getElem?_eq_getElem h]
  exact List.getElem_mem h
theorem mem_getD {i : Nat} (h : i ∈ L) : ∃ k, k < L.length ∧ L.getD k 0 = i := by
  obtain ⟨k, hk, e⟩ := List.mem_iff_getElem.mp h
  exact ⟨k, hk, by rw [List.getD_eq_getElem?_getD, List.getElem?_eq_getElem hk]; exact e⟩
/-- the number of a world -/
def num (L : List Nat) (i : Nat) : Nat := L.idxOf i
end Mo
end Fx
/-! name = {..} on one line, the name a local. -/
namespace Fx
open PySem PySem.Spec L2 PyProof.Rows PySem.W
section
variable {X : Cx}
variable {W : WX} {pos p pos' : Pos} {kx vx tg iter : Expr} {scope : Scope} {own : List (Str × Nat)} {it : Env → M (List D)} {fk fv : EF} {t : Tg} {x : Str} {σ : L2.St} {H : Hp} {ρ : Zn}
end
/-! ### x += n -/
end Fx
/-! The part of a model that can be reached: the walk. -/
namespace Fx
open PySem PySem.Spec L2
section
variable {A : Mo} {L : List Nat} {ro w : List D} {env : Env}
end
/-! ### reached -/
def addS (R : List Nat) (w : Nat) : List Nat := if w ∈ R then R else R ++ [w]
def addL (R ws : List Nat) : List Nat := ws.foldl addS R
theorem addL_spec : ∀ (ws R : List Nat), R.Nodup → (addL R ws).Nodup ∧ (∀ i, i ∈ addL R ws ↔ i ∈ R ∨ i ∈ ws) ∧ R <+: addL R ws
  | [], R, h => ⟨h, by simp [addL], List.prefix_refl _⟩
  | w :: ws, R, h => by
    show (addL (addS R w) ws).Nodup ∧ (∀ i, i ∈ addL (addS R w) ws ↔ _) ∧ R <+: addL (addS R w) ws
    unfold addS
    by_cases c : w ∈ R
    · rw [if_pos c]
      obtain ⟨h1, h2, h3⟩ := addL_spec ws R h
      refine ⟨h1, fun i => ?_, h3⟩
      rw [h2, List.mem_cons]
      constructor
      · rintro (z | z)
        · exact .inl z
        · exact .inr (.inr z)
      · rintro (z | z | z)
        · exact .inl z
        · exact .inl (z ▸ c)
        · exact .inr z
    · rw [if_neg c]
      obtain ⟨h1, h2, h3⟩ := addL_spec ws (R ++ [w]) (by
        rw [List.nodup_append]
        refine ⟨h, by simp, fun a ha b hb e => c ?_⟩
        rw [List.mem_singleton] at hb
        rw [← hb, ← e]
        exact ha)
      refine ⟨h1, fun i => ?_, (List.prefix_append R [w]).trans h3⟩
      rw [h2, List.mem_append, List.mem_singleton, List.mem_cons, or_assoc]
section
variable {A : Mo} {ro : List D}
/-- what holds at each turn -/
structure Bfs (A : Mo) (v : Nat) (R : List Nat) (k : Nat) : Prop where
  nd : R.Nodup
  hd : ∃ t, R = v :: t
  lt : ∀ i ∈ R, i < A.n
  kl : k ≤ R.length
  done : ∀ i, i < k → ∀ j ∈ A.row (R.getD i 0), j ∈ R
  least : ∀ T : List Nat, v ∈ T → A.Cl T → ∀ i ∈ R, i ∈ T
theorem Bfs.len {v k : Nat} {R : List Nat} (h : Bfs A v R k) : R.length ≤ A.n := by
  have := nd_len (m := List.range A.n) h.nd fun a ha => List.mem_range.mpr (h.lt a ha)
  rwa [List.length_range] at this
theorem Bfs.step {v k : Nat} {R : List Nat} (h : Bfs A v R k) (hk : k < R.length) : Bfs A v (addL R (A.row (R.getD k 0))) (k + 1) := by
  obtain ⟨h1, h2, t2, h3⟩ := addL_spec (A.row (R.getD k 0)) R h.nd
  have gd : ∀ i, i < R.length → (addL R (A.row (R.getD k 0))).getD i 0 = R.getD i 0 := fun i hi => by
    rw [← h3, List.getD_eq_getElem?_getD, List.getD_eq_getElem?_getD, List.getElem?_append_left hi]
  refine ⟨h1, ?_, fun i hi => ?_, ?_, fun i hi j hj => ?_, fun T hT cT i hi => ?_⟩
  · obtain ⟨t, e⟩ := h.hd
    exact ⟨t ++ t2, by rw [← h3, e]; rfl⟩
  · rcases (h2 i).mp hi with hi | hi
    · exact h.lt i hi
    · exact (Mo.mem_row.mp hi).1
  · rw [← h3, List.length_append]
    omega
  · rw [gd i (by omega)] at hj
    by_cases c : i = k
    · subst c
      exact (h2 j).mpr (.inr hj)
    · exact (h2 j).mpr (.inl (h.done i (by omega) j hj))
  · rcases (h2 i).mp hi with hi | hi
    · exact h.least T hT cT i hi
    · exact cT _ (h.least T hT cT _ (Mo.getD_mem hk)) i hi
end
end Fx
/-! Models of GL: what the law's drawing gives (written by mkFzP.py from FzA, FzC). -/
namespace Fx
open PySem PySem.Spec L2
structure GX (x : Str) : Prop where
  ok : SOk x
  c1 : ([.str "K", .str "D", .str "K4", .str "D4", .str "GL"] : List D).any (fun d => d.eqs (.str x)) = true
  c2 : x ≠ "S5"
  c3 : ([.str "D", .str "D4"] : List D).any (fun d => d.eqs (.str x)) = false
  c4 : ([.str "K", .str "D", .str "T"] : List D).any (fun d => d.eqs (.str x)) = false
  r2 : ([.str "GL", .str "Grz", .str "Int", .str "KC", .str "LC", .str "BD2", .str "HT", .str "Cl"] : List D).any (fun d => d.eqs (.str x)) = true
  r3 : ([.str "LC", .str "HT"] : List D).any (fun d => d.eqs (.str x)) = false
  r4 : ([.str "KC"] : List D).any (fun d => d.eqs (.str x)) = false
  r5 : ([.str "BD2"] : List D).any (fun d => d.eqs (.str x)) = false
  r6 : x ≠ "Cl"
  r7 : x ≠ "HT"
section
variable {ro w : List D} {env : Env}
/-- goes up, transitive -/
structure GLM (A : Mo) : Prop where
  up : ∀ v w, v < A.n → w < A.n → A.s v w = true → v < w
  trans : ∀ u v w, u < A.n → v < A.n → w < A.n → A.s u v = true → A.s v w = true → A.s u w = true
end
end Fx
/-! Truth at ranks: plain. -/
namespace Fx
open PySem PySem.Spec L2
def tv : Fm → Nat → Bool
  | .fal, _ => false
  | .var _, _ => false
  | .and a b, r => tv a r && tv b r
  | .or a b, r => tv a r || tv b r
  | .imp a b, r => !(tv a r && !tv b r)
  | .box a, r => (List.range r).all fun k => tv a k
/-! ### ranks -/
def mxN (l : List Nat) : Nat := l.foldl max 0
namespace Mo
variable {A : Mo}
def rkI (A : Mo) : Nat → Nat → Nat
  | 0, _ => 0
  | k + 1, v => mxN ((A.row v).map fun w => rkI A k w + 1)
def rk (A : Mo) (v : Nat) : Nat := rkI A A.n v
end Mo
end Fx
/-! Small things that many laws use. -/
namespace Fx
open PySem PySem.Spec L2
/-- a formula, or nothing -/
def OFm (o : Option D) : Prop := ∀ d, o = some d → ∃ φ : Fm, d = φ.toD
theorem OFm.none : OFm none := fun d h => by cases h
theorem OFm.some {φ : Fm} : OFm (some φ.toD) := fun d h => ⟨φ, by cases h; rfl⟩
end Fx
/-! Comprehensions with two fors. -/
namespace Fx
open PySem PySem.Spec L2
section
variable {X : Cx} {C : Cfg} {W : WX} {σ : L2.St} {ρ : Zn} {H : Hp} {ro w : List D}
end
section
variable {X : Cx} {W : WX} {pos p pos' : Pos} {elt tg iter tg1 iter1 : Expr} {ifs ifs1 : List Expr} {scope : Scope} {own : List (Str × Nat)} {vs1 : List Nat} {it it1 : Env → M (List D)} {tt tt1 : Env → M Bool} {f : EF} {t t1 : Tg}
end
section
variable {t t1 : Tg} {own vs1 : List Nat} {it it1 : Env → M (List D)} {tt tt1 : Env → M Bool} {f : EF} {k : List D → M D} {env : Env} {ro w : List D}
end
end Fx
/-! More methods of lists; `in` a tuple of tuples; {} in a list of dicts. -/
namespace Fx
open PySem PySem.Spec L2 PyProof.Rows
/-! ### list * number, which may change -/
section
variable {C : Cfg} {W : WX}
/-! ### insert, extend, index -/
def gInsert (ds : List D) : D → M D := mMod fun es => match ds with
  | [.int i, d] => if 0 ≤ i ∧ i.natAbs < 2 ^ 62 ∧ es.length < sizeLine then some (.non, es.take i.toNat ++ [d] ++ es.drop i.toNat) else none
  | _ => none
def rInsert : V → List V → Hp → VK → Prop := fun x vs H Q => ∃ (l : Addr) (xs : List V) (i : Int) (y : V), x = .ref l ∧ vs = [.int i, y] ∧ H l = some (.lst xs) ∧ xs.length < sizeLine ∧ 0 ≤ i ∧ i < 2 ^ 63 ∧
    Q .non (upd H l (.lst (xs.take i.toNat ++ [y] ++ xs.drop i.toNat)))
theorem okm_insert : OkM C rInsert gInsert := by
  intro W σ ρ H ro w d x ds xs Q hS hd hds q
  obtain ⟨a, vs, es, r, es', rfl, hv, hr, hf, k⟩ := mMod_ok hS hd q
  split at hf
  · rename_i i d'
    by_cases c : 0 ≤ i ∧ i.natAbs < 2 ^ 62 ∧ es.length < sizeLine
    · rw [if_pos c] at hf
      cases hf
      obtain ⟨v, r', rfl, h1, h2⟩ := hds
      obtain ⟨u, r'', rfl, g1, g2⟩ := h2
      cases (show r'' = [] from g2)
      cases (show v = .int i from h1)
      exact ⟨a, vs, i, u, rfl, rfl, hv, by rw [← hr.len]; exact c.2.2, c.1, by omega, k .non _ rfl (((hr.take _).append (Reps.one g1)).append (hr.drop _))⟩
    · rw [if_neg c] at hf
      cases hf
  · cases hf
end
section
variable {X : Cx} {W : WX} {o e : Expr} {es : List Expr} {apos pos : Pos} {fo : EF} {fs : Env → M (List D)}
theorem pf_insert (ho : PE X o (tE (cfg X) W fo)) (ha : PA X (e :: es) (tA (cfg X) W fs)) (hbase : attributeBase o "insert" X.env (eval o X.env) = eval o X.env := by rfl)
    (hfew : ((backTo pos (starEach (e :: es) X.env)).all (fun x => !x.1) && (backToKw pos (keywordEach [] X.env)).all (fun x => x.1.isSome)
      && decide ((e :: es).length + ([] : List Keyword).length + (if ([] : List Keyword).isEmpty then 0 else 1) < 30)) = true := by rfl)
    (hline : (apos.endLine == pos.line) = true := by rfl) (hs : starEach (e :: es) X.env = (false, eval e X.env) :: starEach es X.env := by rfl) (hplain : (backTo pos (starEach es X.env)).any (·.1) = false := by rfl) :
    PE X (.Call (.Attribute o "insert" apos) (e :: es) [] pos) (tE (cfg X) W (cMl gInsert fo fs)) :=
  pe_imp (pe_bm PySem.F.plainAttrs_list PySem.F.slot_list_insert PySem.F.type_list_insert mt_insert ho ha hbase hfew hline hs hplain) fun _ _ _ q => tE_ml okm_insert q
end
/-! ### in a tuple of any data -/
section
variable {X : Cx}
def rInTD (K : PySem.W.Frag) (neg : Bool) : R2 := fun x y H Q => ∃ d ds, Dp K H x d ∧ Dp K H y (.tuple ds) ∧ SeqAt.shaped d = true ∧ SeqAt.shaped (.tuple ds) = true ∧ Q (.bl (if neg then !ds.any fun z => PyData.eqv z d else ds.any fun z => PyData.eqv z d)) H
theorem room_tup {A : Around} {d : PyData} {ds : List PyData} (h : SeqAt.shaped d = true) (hu : A.units + 65 < cLine) : A.units + 1 + min (PyData.depthAll ds) d.depth < cLine := by
  have := SeqAt.depth_of_shaped h
  have h2 : min (PyData.depthAll ds) d.depth ≤ d.depth := Nat.min_le_right _ _
  omega
theorem op_inTD (hu : X.A.units + 65 < cLine) : OpR X (compareOp .In) (rInTD X.K false) := by
  intro pins s σ H x y v u Q I rx ry h
  obtain ⟨d, ds, hd, he, sd, se, q⟩ := h
  obtain ⟨as, r1⟩ := Dp.reads I d x v hd rx
  obtain ⟨bs, r2⟩ := Dp.reads I (.tuple ds) y u he ry
  exact SeqAt.in_tuple_reads r2 r1 (SeqAt.canLay_of_shaped se) (SeqAt.canLay_of_shaped sd) (room_tup sd hu) ⟨.bl _, H, I, rfl, q⟩
end
/-- x in a tuple of any data -/
def gInT (neg : Bool) (x y : D) : M D := match y with
  | .tup ds => fun _ w => if (x.cmp && (D.tup ds).cmp) = true then .ok (.bl (if neg = true then !ds.any fun z => PyData.eqv z.py x.py else ds.any fun z => PyData.eqv z.py x.py)) w else .no
  | _ => M.no
theorem ok2_inT {C : Cfg} {neg : Bool} : Ok2 C (rInTD C.K neg) (gInT neg) := by
  intro W σ ρ H ro w d e x y Q hS hd he q
  unfold gInT at q
  split at q
  · rename_i ds
    by_cases c : (d.cmp && (D.tup ds).cmp) = true
    · simp only [if_pos c] at q
      obtain ⟨c1, c2⟩ := Bool.and_eq_true_iff.mp c
      obtain ⟨f1, s1⟩ := Bool.and_eq_true_iff.mp c1
      obtain ⟨f2, s2⟩ := Bool.and_eq_true_iff.mp c2
      refine ⟨d.py, D.pys ds, Seen.dp f1 hd, Seen.dp f2 he, s1, s2, ?_⟩
      rw [any_pys]
      exact ok_bl hS q
    · simp only [if_neg c] at q
      exact (show False from q).elim
  · exact (show False from q).elim
theorem inT_eq {ro w : List D} {neg : Bool} {x : D} {ds : List D} (h1 : x.cmp = true) (h2 : (D.tup ds).cmp = true) : gInT neg x (.tup ds) ro w = .ok (.bl (if neg = true then !ds.any fun z => PyData.eqv z.py x.py else ds.any fun z => PyData.eqv z.py x.py)) w := by
  show (if (x.cmp && (D.tup ds).cmp) = true then _ else _) = _
  rw [h1, h2]
  rfl
/-! ### {} in a list of dicts -/
section
variable {A : Around} {s : Shared}
end
section
variable {X : Cx}
end
end Fx
/-! Frames closed by masks. -/
namespace Fx
open PySem PySem.Spec L2
/-! ### plain -/
def wstep (u : Nat) (R : Nat → Nat → Bool) (v w : Nat) : Bool := R v w || (R v u && R u w)
def Same2 (n : Nat) (R S : Nat → Nat → Bool) : Prop := ∀ v w, v < n → w < n → R v w = S v w
theorem Same2.step {n u : Nat} {R S : Nat → Nat → Bool} (hu : u < n) (h : Same2 n R S) : Same2 n (wstep u R) (wstep u S) := fun v w hv hw => by
  unfold wstep
  rw [h v w hv hw, h v u hv hu, h u w hu hw]
/-! ### masks -/
section
variable {ro w : List D} {env : Env}
end
section
variable {ro : List D} {fr pr : D} {r t : Bool} {n : Nat}
end
theorem mem_grid {n m : Nat} {p : Nat × Nat} : p ∈ gridL n m ↔ p.1 < n ∧ p.2 < m := by
  unfold gridL
  rw [List.mem_flatMap]
  constructor
  · rintro ⟨i, hi, hp⟩
    rw [List.mem_map] at hp
    obtain ⟨j, hj, rfl⟩ := hp
    exact ⟨List.mem_range.mp hi, List.mem_range.mp hj⟩
  · rintro ⟨h1, h2⟩
    exact ⟨p.1, List.mem_range.mpr h1, List.mem_map.mpr ⟨p.2, List.mem_range.mpr h2, rfl⟩⟩
end Fx
/-! is_frame of whatever is passed. -/
namespace Fx
open PySem PySem.Spec L2
def prI (p : Int × Int) : D := .tup [.int p.1, .int p.2]
def inR (n : Int) (p : Int × Int) : Bool := decide (0 ≤ p.1 ∧ p.1 < n) && decide (0 ≤ p.2 ∧ p.2 < n)
def two (p : Int × Int) : List Int := [p.1, p.2]
def frB (n : Int) (ps : List (Int × Int)) : Bool := decide (1 ≤ n) && (ps.all (inR n) && decide (setK pairK (ps.map two) = ps.map two))
theorem prI_pairs {ps : List (Int × Int)} (h : ∀ p ∈ ps, (0 ≤ p.1 ∧ p.1 < 64) ∧ (0 ≤ p.2 ∧ p.2 < 64)) : asPairs (ps.map prI) = some (ps.map two) := by
  induction ps with
  | nil => rfl
  | cons p l ih =>
    have e : asPair (prI p) = some (two p) := by
      show (if (0 ≤ p.1 ∧ p.1 < 64) ∧ (0 ≤ p.2 ∧ p.2 < 64) then some [p.1, p.2] else none) = _
      rw [if_pos (h p (by simp))]
      rfl
    rw [List.map_cons, List.map_cons]
    unfold asPairs
    rw [e, ih fun q hq => h q (List.mem_cons_of_mem _ hq)]
theorem ofInts_two {ps : List (Int × Int)} : (ps.map two).map ofInts = ps.map prI := by
  rw [List.map_map]
  rfl
theorem ofInts_eqo {l : List (List Int)} : (D.lst (l.map ofInts)).eqo = true := by
  have hm : ∀ d ∈ l.map ofInts, d.nb = true ∧ d.lay = true ∧ d.dp ≤ 1 := fun d hd => by
    obtain ⟨p, _, rfl⟩ := List.mem_map.mp hd
    refine ⟨nbs_ints, lays_ints, ?_⟩
    show D.dps (p.map .int) + 1 ≤ 1
    have : D.dps (p.map .int) ≤ 0 := dps_ints
    omega
  refine eqo_of ?_ ?_ ?_
  · show D.nbs _ = true
    exact nbs_iff.mpr fun d hd => (hm d hd).1
  · show D.lays _ = true
    exact lays_iff.mpr fun d hd => (hm d hd).2.1
  · have : D.dps (l.map ofInts) ≤ 1 := dps_iff.mpr fun d hd => (hm d hd).2.2
    simp only [D.dp]
    omega
theorem ofInts_inj : ∀ {l m : List (List Int)}, l.map ofInts = m.map ofInts → l = m
  | [], [], _ => rfl
  | [], _ :: _, h => by simp at h
  | _ :: _, [], h => by simp at h
  | x :: l, y :: m, h => by
    simp only [List.map_cons, List.cons.injEq] at h
    have e : x.map D.int = y.map D.int := D.tup.inj h.1
    have : ∀ {a b : List Int}, a.map D.int = b.map D.int → a = b := by
      intro a
      induction a with
      | nil => intro b h; cases b <;> simp at h ⊢
      | cons z a ih =>
        intro b h
        cases b with
        | nil => simp at h
        | cons u b =>
          simp only [List.map_cons, List.cons.injEq, D.int.injEq] at h
          rw [h.1, ih h.2]
    rw [this e, ofInts_inj h.2]
def sPair (c : List D → M D) : SF := sIf (cOrT (cTest (cBin gNe (cCall (one gLen) (cArgs [cVar 3])) (cK (.int 2)))) (cOrT (cNotT (cTru (cCall (fun ds => if ds.length = 2 then c ds else M.no) (cArgs [cBin gIx (cVar 3) (cK (.int 0)), cVar 1])))) (cNotT (cTru (cCall (fun ds => if ds.length = 2 then c ds else M.no) (cArgs [cBin gIx (cVar 3) (cK (.int 1)), cVar 1])))))) (sRet (cK (.bl false))) (sNil)
theorem frame_all {c : List D → M D} (hc : WorldSpec c) {n : Int} {ps : List (Int × Int)} {ro w : List D} (hn : n < 64) (hl : ps.length < 64) : runDef 1 4 (h_is_frame c) [.tup [.int n, .tup (ps.map prI)]] ro w = .ok (.bl (frB n ps)) w := by
  have ht : Tg.put (.tp [1, 2]) (.tup [.int n, .tup (ps.map prI)]) [some (.tup [.int n, .tup (ps.map prI)]), none, none, none] = some [some (.tup [.int n, .tup (ps.map prI)]), some (.int n), some (.tup (ps.map prI)), none] := rfl
  have ha := x_asg (f := cVar 0) (t := .tp [1, 2]) (ro := ro) (w := w) (w1 := w) (d := .tup [.int n, .tup (ps.map prI)]) rfl ht
  rw [x_def]
  simp only [List.length_singleton, if_true, List.map_cons, List.map_nil, Nat.reduceSub, List.replicate, List.cons_append, List.nil_append]
  unfold h_is_frame
  rw [x_seq, ha, oan_nx]
  by_cases hz : n < 1
  · have : decide (1 ≤ n) = false := decide_eq_false (by omega)
    rw [x_seq, x_ifS, x_orT, x_tru, x_isi, x_var]
    simp only [List.getElem?_cons_succ, List.getElem?_cons_zero, ofO_ss, an_ok, see_int, isi_int, see_bl, truth_bl]
    rw [show isTy .int .bl = false from rfl, if_neg Bool.false_ne_true, x_test, x_bin, x_var]
    simp only [List.getElem?_cons_succ, List.getElem?_cons_zero, ofO_ss, an_ok, x_k, see_int, lt_int, hz, decide_true, bool_bl, st_ok, if_true, x_ret, oan_rt, fin_rt, frB, this, Bool.false_and]
  · have h1 : decide (1 ≤ n) = true := decide_eq_true (by omega)
    have s1 : ∀ t, sSeq (sIf (cOrT (cTru (cIsi .bl (cVar 1))) (cTest (cBin gLt (cVar 1) (cK (.int 1))))) (sRet (cK (.bl false))) (sNil)) t [some (.tup [.int n, .tup (ps.map prI)]), some (.int n), some (.tup (ps.map prI)), none] ro w = t [some (.tup [.int n, .tup (ps.map prI)]), some (.int n), some (.tup (ps.map prI)), none] ro w := fun t => by
      rw [x_seq, x_ifS, x_orT, x_tru, x_isi, x_var]
      simp only [List.getElem?_cons_succ, List.getElem?_cons_zero, ofO_ss, an_ok, see_int, isi_int, see_bl, truth_bl]
      rw [show isTy .int .bl = false from rfl, if_neg Bool.false_ne_true, x_test, x_bin, x_var]
      simp only [List.getElem?_cons_succ, List.getElem?_cons_zero, ofO_ss, an_ok, x_k, see_int, lt_int, hz, decide_false, bool_bl, st_ok, Bool.false_eq_true, if_false, x_nil, oan_nx]
    obtain ⟨e', lp⟩ := for_ret (h := prI) (k := 3) (s := sPair c) (p := fun p => !inR n p) (d := .bl false) (ro := ro) (w := w) (env := [some (.tup [.int n, .tup (ps.map prI)]), some (.int n), some (.tup (ps.map prI)), none]) (l := ps) none (fun p _ => by
      have w1 := hc p.1 n ro w
      have w2 := hc p.2 n ro w
      have e1 : gIx (prI p) (.int 0) ro w = .ok (.int p.1) w := rfl
      have e2 : gIx (prI p) (.int 1) ro w = .ok (.int p.2) w := rfl
      have e3 : gLen (prI p) ro w = .ok (.int 2) w := rfl
      have es : see ro w (prI p) = prI p := rfl
      unfold sPair inR
      by_cases c1 : 0 ≤ p.1 ∧ p.1 < n
      · by_cases c2 : 0 ≤ p.2 ∧ p.2 < n
        · simp [e1, e2, e3, es, w1, w2, c1, c2]
        · simp [e1, e2, e3, es, w1, w2, c1, c2]
      · simp [e1, e2, e3, es, w1, w2, c1])
    have it : cSeq (cVar 2) [some (.tup [.int n, .tup (ps.map prI)]), some (.int n), some (.tup (ps.map prI)), none] ro w = .ok (ps.map prI) w := by simp
    have lp' : forL (.nm 3) (sPair c) (ps.map prI) [some (.tup [.int n, .tup (ps.map prI)]), some (.int n), some (.tup (ps.map prI)), none] ro w = _ := lp
    unfold sPair at lp'
    rw [s1, x_seq, x_for, it, st_ok, lp']
    have an : (ps.any fun p => !inR n p) = !ps.all (inR n) := by
      rw [List.any_eq_not_all_not]
      simp
    rw [an]
    cases hall : ps.all (inR n) with
    | false =>
      rw [Bool.not_false, if_pos rfl, oan_rt, fin_rt]
      simp only [frB, h1, hall, Bool.false_and, Bool.and_false]
    | true =>
      rw [Bool.not_true, if_neg Bool.false_ne_true, oan_nx]
      have hr : ∀ p ∈ ps, (0 ≤ p.1 ∧ p.1 < 64) ∧ (0 ≤ p.2 ∧ p.2 < 64) := fun p hp => by
        have h := List.all_eq_true.mp hall p hp
        unfold inR at h
        rw [Bool.and_eq_true, decide_eq_true_eq, decide_eq_true_eq] at h
        omega
      have es : gSortSet (.tup (ps.map prI)) ro w = .ok (.lst ((setK pairK (ps.map two)).map ofInts)) w := by
        unfold gSortSet sortSet
        dsimp only
        rw [prI_pairs hr]
        dsimp only
        rw [List.length_map, if_pos hl]
      have e2 : gEq (.lst (ps.map prI)) (.lst ((setK pairK (ps.map two)).map ofInts)) ro w = .ok (.bl (decide (setK pairK (ps.map two) = ps.map two))) w := by
        rw [← ofInts_two, eq_eqo ofInts_eqo ofInts_eqo]
        congr 2
        rw [Bool.eq_iff_iff, decide_eq_true_iff, decide_eq_true_iff, D.lst.injEq]
        exact ⟨fun h => (ofInts_inj h).symm, fun h => by rw [h]⟩
      simp only [List.set_cons_succ, List.set_cons_zero, x_ret, x_bin, x_call, x_args, x_args0, x_var, List.getElem?_cons_succ, List.getElem?_cons_zero, ofO_ss, an_ok, x_one, see_tup, list_tup, es, see_lst, e2, st_ok, fin_rt]
      simp only [frB, h1, hall, Bool.true_and]
end Fx
/-! Walks over a dict within a list: for t in x[y], [.. for t in x[y]]. -/
namespace Fx
open PySem PySem.Spec L2
section
variable {X : Cx} {W : WX} {pos p p2 pos' : Pos} {elt tg iter : Expr} {ifs : List Expr} {scope : Scope} {own : List (Str × Nat)} {tt : Env → M Bool} {f : EF} {t : Tg} {x y c : Str} {σ : L2.St} {H : Hp} {ρ : Zn}
end
section
variable {t : Tg} {own : List Nat} {i j : Nat} {tt : Env → M Bool} {f : EF} {k : List D → M D} {env : Env} {ro w : List D} {ks xs ds : List D} {n : Int} {body : SF}
end
end Fx
/-! The frames of the logics: what the program asks. -/
namespace Fx
open PySem PySem.Spec L2
/-! ### conditions -/
section
variable (n : Nat) (R : Nat → Nat → Bool)
end
/-! ### the dicts of what is seen -/
def dg (n : Nat) (R : Nat → Nat → Bool) (v : Nat) : D := .dic (((List.range n).filter (R v)).map nD) (((List.range n).filter (R v)).map fun _ => .bl true)
section
variable {n : Nat} {R : Nat → Nat → Bool} {ro w : List D} {env : Env}
theorem row_len {v : Nat} {p : Nat → Bool} (hn : n < 25) : (((List.range n).filter (R v)).filter p).length ≤ 1000 ∧ ((List.range n).filter (R v)).length ≤ sizeLine := by
  have h1 := List.length_filter_le (R v) (List.range n)
  have h2 := List.length_filter_le p ((List.range n).filter (R v))
  rw [List.length_range] at h1
  have hs : sizeLine = 16777216 := rfl
  omega
end
end Fx
/-! The frames of the logics: seen_by, require_logic, is_frame_of. -/
namespace Fx
open PySem PySem.Spec L2
section
variable {n : Nat} {R : Nat → Nat → Bool} {ro w : List D} {env : Env}
def dk (l : List Nat) : D := .dic (l.map nD) (l.map fun _ => .bl true)
end
/-! ### require_logic -/
def memB (l : List Str) (x : Str) : Bool := l.any fun y => y == x
section
variable {n : Nat} {R : Nat → Nat → Bool} {ro w : List D} {env : Env}
/-! ### is_frame_of -/
end
end Fx
/-! The frames of the logics: what the law asks. -/
namespace Fx
open PySem PySem.Spec L2
/-! ### plain -/
section
variable (n : Nat) (R : Nat → Nat → Bool)
end
section
variable {n : Nat} {R : Nat → Nat → Bool}
end
/-! ### chains, forks -/
section
variable {ro w : List D} {env : Env} {A : Mo}
theorem comp_rng (hA : A.n < 25) {o : Nat} {ta : Env → M Bool} {fa : EF} {p : Nat → Bool} {g : Nat → D} {it : Env → M (List D)} (hi : it env ro w = .ok ((List.range A.n).map nD) w)
    (h : ∀ u, u < A.n → ta ((wipeE env [o]).set o (some (nD u))) ro w = .ok (p u) w) (h2 : ∀ u, u < A.n → p u = true → fa ((wipeE env [o]).set o (some (nD u))) ro w = .ok (g u) w) : cComp (.nm o) [o] it ta fa kStill env ro w = .ok (.lst (((List.range A.n).filter p).map g)) w := by
  have c := comp_filt (k := o) (env := wipeE env [o]) (ro := ro) (w := w) (h := nD) (g := g) (ta := ta) (fa := fa) (p := p) (l := List.range A.n) (fun a ha => h a (List.mem_range.mp ha)) (fun a ha hp => h2 a (List.mem_range.mp ha) hp)
  rw [x_comp, hi, an_ok, if_pos (by rw [List.length_map, List.length_range]; show A.n ≤ 16777216; omega), c, an_ok, x_still]
end
end Fx
/-! The frames of the logics: both answers are one. -/
namespace Fx
open PySem PySem.Spec L2
section
variable {n : Nat} {R : Nat → Nat → Bool}
end
/-! ### three different worlds -/
/-! ### the law's own -/
section
variable {ro w : List D} {env : Env} {A : Mo}
end
end Fx
/-! The frames of the logics: the law's own answer. -/
namespace Fx
open PySem PySem.Spec L2
section
variable {ro w : List D} {env : Env} {A : Mo}
end
end Fx
/-! try, several except clauses without a name. -/
namespace Fx
open PySem PySem.Spec L2
def sHds : List ((Str → Option Bool) × SF) → Str → SF
  | [], c => fun env _ w => .exn c [] [] env w
  | (sub, s) :: r, c => match sub c with
    | some true => fun env ro w => (match s env ro w with
      | .go fl env2 w2 => .go fl env2 w2
      | _ => .no)
    | some false => sHds r c
    | none => fun _ _ _ => .no
def sTryM (hds : List ((Str → Option Bool) × SF)) (body : SF) : SF := fun env ro w => match body env ro w with
  | .exn c [] [] env1 w1 => sHds hds c env1 ro w1
  | .exn _ _ _ _ _ => .no
  | o => o
section
variable {X : Cx} {W : WX} {x : Str} {body suite : List Stmt} {b₀ : Stmt} {np pos pos' : Pos} {fb fs : SF} {hds : List ExceptHandler} {h₀ : ExceptHandler} {L : List ((Str → Option Bool) × SF)} {cs us : List Str} {sub : Str → Str → Bool}
def HdF (X : Cx) (hds : List ExceptHandler) (L : List ((Str → Option Bool) × SF)) : Prop := ∃ l, HdsOk X hds l ∧ ∀ (W : WX) (E : Ends) (c' : Str) (cls : Value) (dx : Option Addr) (σ1 : L2.St) (ρ ρ1 : Zn) (H H1 : Hp) (ro w1 : List D) (env1 : Fx.Env) (A : Addr),
  X.mg c' = some (.ref A) → cls = .ref A → RepX (cfg X) ρ1 H1 c' [] [] cls dx → Ext ρ ρ1 H H1 → RepS (cfg X) ρ1 H1 (ro ++ w1) → RepE (cfg X) ρ1 H1 env1 σ1 → AfterS (cfg X) W ρ H ro (sHds L c' env1 ro w1) E → wMany X.K W E l cls dx σ1 H1
theorem hdf_nil : HdF X [] [] := ⟨[], .nil, fun W D c' cls dx σ1 ρ ρ1 H H1 ro w1 env1 A h1 h2 hX x1 s1 e1 q => q cls dx σ1 ρ1 H1 x1 s1 e1 hX⟩
theorem hdf_cons (T : ExT X.K X.mg cs us sub) (hx : x ∈ us) (hg : Gl X x) (hdb : (x == ("__debug__" : Str)) = false)
    (hsu : ∀ (a : Addr) (oe : Obj) (cls : Value) (d : Option Addr) (pn : List (Addr × Obj)), Zc cls d oe → (∃ vs, oe.data = .fields vs) → PSs (X.suite a ((a, oe) :: pn)) (b₀ :: suite) (tS (cfg X) W0 fs)) (r : HdF X hds L) :
    HdF X (.ExceptHandler (some (.Name x np)) none (b₀ :: suite) pos' :: hds) ((subO cs sub x, fs) :: L) := by
  obtain ⟨l, k, g⟩ := r
  obtain ⟨B, hB⟩ := T.na x hx
  refine ⟨(.ref B, fun _ _ _ => tS (cfg X) W0 fs) :: l, .cons ⟨hg, hdb, .inl hB⟩ hsu k, fun W D c' cls dx σ1 ρ ρ1 H H1 ro w1 env1 A h1 h2 hX x1 s1 e1 q => ?_⟩
  unfold sHds at q
  cases e2 : subO cs sub x c' with
  | none => rw [e2] at q; exact (show False from q).elim
  | some b =>
    rw [e2] at q
    have hx := T.sub' hx hB c' b e2 A h1
    rw [← h2] at hx
    refine ⟨b, hx, fun hb' a na => ?_, fun hb' => ?_⟩
    · subst hb'
      simp only at q
      refine ⟨ρ1, env1, ro, w1, s1, e1, ?_⟩
      cases e3 : fs env1 ro w1 with
      | no => rw [e3] at q; exact (show False from q).elim
      | exn _ _ _ _ _ => rw [e3] at q; exact (show False from q).elim
      | go fl env2 w2 =>
        rw [e3] at q
        have q' := AfterS.ext x1 q
        cases fl with
        | nx => exact q'
        | bk => exact q'
        | ct => exact q'
        | rt d => exact q'
    · subst hb'
      simp only at q
      exact g W D c' cls dx σ1 ρ ρ1 H H1 ro w1 env1 A h1 h2 hX x1 s1 e1 q
theorem f_tryM (hh : HdF X (h₀ :: hds) L) (hs : X.stack = X.env :: X.outer) (hf : X.env.frame = some X.env.locals) (tk : Takes X W)
    (hb : ∀ (W : WX) (pn : List (Addr × Obj)) (xe : Value → Shared → Prop), Takes (X.tr pn xe) W → PassesOwn (model X.prog X.w) X.A X.env xe → PSs (X.tr pn xe) body (tS (cfg X) W fb)) :
    PS X (.Try body (h₀ :: hds) [] [] pos) (tS (cfg X) W (sTryM L fb)) := by
  obtain ⟨l, k, g⟩ := hh
  refine ps_imp (ps_try_many (tb := fun W => tS (cfg X) W fb) (Wout := W) hs hf tk hb k) fun D σ H ⟨ρ, env, ro, w, hS, hE, q⟩ => ?_
  refine ⟨ρ, env, ro, w, hS, hE, ?_⟩
  unfold sTryM at q
  cases e : fb env ro w with
  | no => rw [e] at q; exact q
  | go fl env1 w1 =>
    rw [e] at q
    cases fl with
    | nx => exact q
    | rt d => exact q
    | bk => exact q
    | ct => exact q
  | exn c' ns xs env1 w1 =>
    rw [e] at q
    cases ns with
    | cons _ _ => exact (show False from q).elim
    | nil =>
      cases xs with
      | cons _ _ => exact (show False from q).elim
      | nil =>
        intro cls dx σ1 ρ1 H1 x1 s1 e1 hX
        have hX' := hX
        obtain ⟨A, h1, h2, h3⟩ := hX
        exact g W D c' cls dx σ1 ρ ρ1 H H1 ro w1 env1 A h1 h2 hX' x1 s1 e1 q
end
end Fx
/-! Models of logics. -/
namespace Fx
open PySem PySem.Spec L2
/-- values that grow along the frame -/
def growsV (A : Mo) (v : List (Str × List Nat)) : Bool := v.all fun p => p.2.all fun i => (List.range A.n).all fun u => !A.s i u || p.2.contains u
def grows (A : Mo) : Bool := growsV A A.v
section
variable {ro w : List D} {env : Env} {A : Mo}
/-! ### is_model_of -/
/-! ### holds -/
end
end Fx
/-! The frames that the law draws: of each logic. -/
namespace Fx
open PySem PySem.Spec L2
section
variable {n : Nat} {R S : Nat → Nat → Bool}
/-! ### what a logic asks -/
structure LFr (x : Str) (n : Nat) (R : Nat → Nat → Bool) : Prop where
  tr : memB ["K", "D", "T"] x = false → ∀ u v w, u < n → v < n → w < n → R u v = true → R v w = true → R u w = true
  se : memB ["D", "D4"] x = true → ∀ v, v < n → ∃ w, w < n ∧ R v w = true
  ir : x = "GL" → ∀ v, v < n → R v v = false
  rf : memB ["K", "D", "K4", "D4", "GL"] x = false → ∀ v, v < n → R v v = true
  an : memB ["K", "D", "T", "K4", "D4", "S4", "S5", "GL"] x = false → ∀ v w, v < n → w < n → v ≠ w → R v w = true → R w v = false
  sy : x = "S5" → ∀ v w, v < n → w < n → R v w = true → R w v = true
  co : memB ["LC", "HT"] x = true → ∀ u v w, u < n → v < n → w < n → R u v = true → R u w = true → R v w = true ∨ R w v = true
  di : x = "KC" → ∀ u v w, u < n → v < n → w < n → R u v = true → R u w = true → ∃ z, z < n ∧ R v z = true ∧ R w z = true
  cl : x = "Cl" → ∀ v w, v < n → w < n → R v w = true → v = w
  sh : memB ["BD2", "HT"] x = true → ∀ u v w, u < n → v < n → w < n → v ≠ u → R u v = true → R v w = true → w = u ∨ w = v
end
end Fx
/-! What the law draws is of its logic: the frames. -/
namespace Fx
open PySem PySem.Spec L2
section
variable {n : Nat} {R S : Nat → Nat → Bool} {Q : Nat → Nat → Prop}
variable {B : Nat → Nat → Bool}
end
end Fx
/-! What the law draws is of its logic: the closing. -/
namespace Fx
open PySem PySem.Spec L2
section
variable {ro w : List D} {env : Env}
end
end Fx
/-! What the law draws is of its logic: the rows, the model (its walk written by mkGaI.py from FzD). -/
namespace Fx
open PySem PySem.Spec L2
section
variable {ro w : List D} {env : Env}
/-- rows by a function -/
abbrev rg (n : Nat) (g : Nat → Bool) : List Bool := (List.range n).map g
/-! ### the values -/
/-- of the logic -/
structure OfL (x : Str) (A : Mo) : Prop where
  fr : LFr x A.n A.s
  int : memB intL x = true → IntM A
theorem LFr.same {x : Str} {n : Nat} {R S : Nat → Nat → Bool} (h : Same2 n S R) (a : LFr x n R) : LFr x n S where
  tr := fun c u v w hu hv hw h1 h2 => by
    rw [h u v hu hv] at h1
    rw [h v w hv hw] at h2
    rw [h u w hu hw]
    exact a.tr c u v w hu hv hw h1 h2
  se := fun c v hv => by
    obtain ⟨w, hw, g⟩ := a.se c v hv
    exact ⟨w, hw, by rw [h v w hv hw]; exact g⟩
  ir := fun c v hv => by rw [h v v hv hv]; exact a.ir c v hv
  rf := fun c v hv => by rw [h v v hv hv]; exact a.rf c v hv
  an := fun c v w hv hw ne h1 => by
    rw [h v w hv hw] at h1
    rw [h w v hw hv]
    exact a.an c v w hv hw ne h1
  sy := fun c v w hv hw h1 => by
    rw [h v w hv hw] at h1
    rw [h w v hw hv]
    exact a.sy c v w hv hw h1
  co := fun c u v w hu hv hw h1 h2 => by
    rw [h u v hu hv] at h1
    rw [h u w hu hw] at h2
    rw [h v w hv hw, h w v hw hv]
    exact a.co c u v w hu hv hw h1 h2
  di := fun c u v w hu hv hw h1 h2 => by
    rw [h u v hu hv] at h1
    rw [h u w hu hw] at h2
    obtain ⟨z, hz, g1, g2⟩ := a.di c u v w hu hv hw h1 h2
    exact ⟨z, hz, by rw [h v z hv hz]; exact g1, by rw [h w z hw hz]; exact g2⟩
  cl := fun c v w hv hw h1 => by
    rw [h v w hv hw] at h1
    exact a.cl c v w hv hw h1
  sh := fun c u v w hu hv hw ne h1 h2 => by
    rw [h u v hu hv] at h1
    rw [h v w hv hw] at h2
    exact a.sh c u v w hu hv hw ne h1 h2
end
end Fx
/-! Scripts of numbers: the pool, formulas, models (written by mkGaK.py from FxN, K53e, FzA, FzD, GaI). -/
namespace Fx
open PySem PySem.Spec L2
namespace Lw
end Lw
section
variable {ro w : List D} {env : Env}
end
end Fx
/-! list(d), d a dict that stands still. -/
namespace Fx
open PySem PySem.Spec L2
def gListD : D → M D
  | .dic ks _ => fun _ w => .ok (.lst ks) w
  | _ => M.no
@[simp] theorem listD_dic {ks xs : List D} {ro w : List D} : gListD (.dic ks xs) ro w = .ok (.lst ks) w := rfl
end Fx
/-! Rounds: plain. -/
namespace Fx
open PySem PySem.Spec L2
abbrev RL := List ((Nat × Nat) × Nat)
def dR (L : RL) : D := .dct (L.map fun e => prD e.1) (L.map fun e => nD e.2)
def kF (L : RL) (p : Nat × Nat) : Bool := L.any fun e => decide (e.1 = p)
def T0 (A B : Mo) (p : Nat × Nat) : Bool := (A.v.map (·.1) ++ B.v.map (·.1)).any fun x => !decide ((A.at' x).contains p.1 = (B.at' x).contains p.2)
def lonL (A B : Mo) (F : Nat × Nat → Bool) (p : Nat × Nat) : Bool := (A.row p.1).any fun x => (B.row p.2).all fun y => F (x, y)
def lonR (A B : Mo) (F : Nat × Nat → Bool) (p : Nat × Nat) : Bool := (B.row p.2).any fun y => (A.row p.1).all fun x => F (x, y)
def isT (A B : Mo) (L : RL) (p : Nat × Nat) : Bool := lonL A B (kF L) p || lonR A B (kF L) p
def newP (A B : Mo) (L : RL) : List (Nat × Nat) := (gridL A.n B.n).filter fun p => !kF L p && isT A B L p
def LR (A B : Mo) : Nat → RL
  | 0 => ((gridL A.n B.n).filter (T0 A B)).map fun p => (p, 0)
  | k + 1 => LR A B k ++ (newP A B (LR A B k)).map fun p => (p, k + 1)
section
variable {A B : Mo}
end
end Fx
/-! Rounds: the walk. -/
namespace Fx
open PySem PySem.Spec L2
section
variable {ro w : List D} {env : Env} {A B : Mo}
def SNames (A : Mo) : Prop := ∀ p ∈ A.v, SOk p.1
/-! ### names -/
/-! ### witnesses -/
/-- a rounds object -/
structure RoO (A B : Mo) (L : RL) (ro w : List D) (o : D) : Prop where
  o : ∃ d, see ro w o = .ins "Rounds" ["first", "second", "found"] [A.progD, B.progD, d] ∧ see ro w d = dR L
theorem f1 {d : D} : fieldV ["first", "second", "found"] [A.progD, B.progD, d] "first" = some A.progD := rfl
theorem f2 {d : D} : fieldV ["first", "second", "found"] [A.progD, B.progD, d] "second" = some B.progD := by
  simp [fieldV, ofString_inj]
theorem f3 {d : D} : fieldV ["first", "second", "found"] [A.progD, B.progD, d] "found" = some d := by
  simp [fieldV, ofString_inj]
end
end Fx
/-! Rounds: the object, the law's own. -/
namespace Fx
open PySem PySem.Spec L2
section
variable {ro w : List D} {env : Env} {A B : Mo}
/-! ### the object -/
abbrev iE (b : Nat) (A B : Mo) (e4 e5 e6 e7 e8 e9 : Option D) : Env := [some (.ref b), some A.progD, some B.progD, some (.lst ((gridL A.n B.n).map prD)), e4, e5, e6, e7, e8, e9]
end
end Fx
/-! Rounds: the whole; the law's own. -/
namespace Fx
open PySem PySem.Spec L2
def LF (A B : Mo) : RL := LR A B (A.n * B.n + 1)
section
variable {ro w : List D} {env : Env} {A B : Mo}
/-! ### the greatest bisimulation -/
end
end Fx
/-! Rounds: the law's own. -/
namespace Fx
open PySem PySem.Spec L2
section
variable {ro w : List D} {env : Env} {A B : Mo}
end
end Fx
/-! d.get(k, z), d a dict with nested keys. -/
namespace Fx
open PySem PySem.Spec L2 PyProof.Rows PySem.W
def IsN (X : Cx) (H : Hp) (a : Addr) : Prop := ∀ pins σ s, Inv X pins σ H s → s.TypeIs (.ref a) "dict" ∧ ∀ b, Value.ref a = .ref b → ∃ ob, s.heap.get? b = some ob ∧ ob.dict = none
section
variable {X : Cx} {o e f : Expr} {apos cpos : Pos} {td ty tx : TE}
end
section
variable {X : Cx} {W : WX} {fo fk fz : EF} {o e f : Expr} {pos apos : Pos}
end
section
variable {fo fk fz : EF} {env : Fx.Env} {ro w : List D}
end
end Fx
/-! The round of two worlds; chains. -/
namespace Fx
open PySem PySem.Spec L2
def h_law_chain (c_law_draw : List D → M D) : SF :=
  sSeq (sSet 1 (cBin gAdd (cK (.int 1)) (cCall (fun ds => if ds.length = 2 then c_law_draw ds else M.no) (cArgs [cVar 0, cK (.int 7)]))))
  (sSeq (sSet 2 (cComp (.nm 3) [3] (cRng1 (cArgs [cVar 1])) (cYes) (cComp (.nm 4) [4] (cRng1 (cArgs [cVar 1])) (cYes) (cOr (cBin gEq (cVar 4) (cBin gAdd (cVar 3) (cK (.int 1)))) (cAnd (cBin gEq (cVar 4) (cVar 3)) (cAnd (cBin gEq (cVar 3) (cBin gSub (cVar 1) (cK (.int 1)))) (cBin gEq (cBin gMod (cVar 1) (cK (.int 2))) (cK (.int 0)))))) kStill) kStill))
  (sRet (cTup (cArgs [cVar 2, cDisp [((cK (.str "p")), (cComp (.nm 4) [4] (cRng1 (cArgs [cVar 1])) (cTest (cBin gEq (cCall (fun ds => if ds.length = 2 then c_law_draw ds else M.no) (cArgs [cVar 0, cK (.int 8)])) (cK (.int 0)))) (cVar 4) kStill))]]))))
section
variable {ro w : List D} {env : Env} {A B : Mo}
/-! ### chains -/
def chS (n i j : Nat) : Bool := decide ((j : Int) = (i : Int) + 1) || (decide ((j : Int) = (i : Int)) && (decide ((i : Int) = (n : Int) - 1) && decide ((n : Int) % 2 = 0)))
def chMo (n : Nat) (l : List Nat) : Mo := ⟨n, chS n, [("p", l)]⟩
theorem chMo_good {n : Nat} {l : List Nat} (h0 : 0 < n) (h7 : n ≤ 7) (hl : l.Sublist (List.range n)) : (chMo n l).Good := by
  refine ⟨h0, by show n < 25; omega, by simp [chMo], ?_, by simp [chMo], ?_⟩
  · intro p hp
    simp only [chMo, List.mem_cons, List.not_mem_nil, or_false] at hp
    subst hp
    exact sub_ns hl
  · have e := pairs_grid (A := chMo n l)
    have g := List.length_filter_le (fun p : Nat × Nat => (chMo n l).s p.1 p.2) (gridL (chMo n l).n (chMo n l).n)
    rw [e, grid_len] at g
    have k : (chMo n l).n ≤ 7 := h7
    have := Nat.mul_le_mul k k
    omega
theorem ch_names {n : Nat} {l : List Nat} : SNames (chMo n l) := fun p hp => by
  simp only [chMo, List.mem_cons, List.not_mem_nil, or_false] at hp
  subst hp
  exact ok_lit
def ChainSpec (f : List D → M D) : Prop := ∀ P, PoolOk P → ∃ (P' : D) (B : Mo), PoolOk P' ∧ B.Good ∧ B.n ≤ 7 ∧ SNames B ∧ f [.ref 0] [] [P] = .ok B.lawD [P']
theorem draw_comp {cd : List D → M D} (hd : DrawSpec cd) {e1 e2 e3 e4 : Option D} : ∀ (l : List Nat) (P : D), PoolOk P → ∃ (P' : D) (l' : List Nat), PoolOk P' ∧ l'.Sublist l ∧ compR (.nm 4) (cTest (cBin gEq (cCall (fun ds => if ds.length = 2 then cd ds else M.no) (cArgs [cVar 0, cK (.int 8)])) (cK (.int 0)))) (cVar 4) [some (.ref 0), e1, e2, e3, e4] (l.map nD) [] [P] = .ok (l'.map nD) [P']
  | [], P, hP => ⟨P, [], hP, List.Sublist.refl _, rfl⟩
  | i :: l, P, hP => by
    obtain ⟨v, P1, g1, a1, b1, hP1⟩ := hd P [] 8 hP (by decide) (by decide)
    obtain ⟨P2, l', hP2, s, h⟩ := draw_comp hd (e1 := e1) (e2 := e2) (e3 := e3) (e4 := e4) l P1 hP1
    have t : cTest (cBin gEq (cCall (fun ds => if ds.length = 2 then cd ds else M.no) (cArgs [cVar 0, cK (.int 8)])) (cK (.int 0))) (([some (.ref 0), e1, e2, e3, e4] : Env).set 4 (some (nD i))) [] [P] = .ok (decide (v = 0)) [P1] := by
      simp only [x_and, x_or, x_not, x_andT, x_orT, x_notT, x_tru, x_test, x_bin, x_un, x_tup, x_lst, x_call, x_call0, x_args, x_args0, x_var, x_k, x_one, x_nil, x_if, List.getElem?_cons_zero, List.getElem?_cons_succ, ofO_ss, an_ok, List.length_cons, List.length_nil, Nat.zero_add, Nat.reduceAdd, if_true, Bool.false_eq_true, if_false, see_int, see_str, see_bl, see_lst, see_tup, see_non, bool_bl, truth_bl, st_ok, oan_nx, oan_rt, oan_bk, oan_ct, fin_rt, fin_nx, tn_nx, tn_rt, tn_ct, tn_bk, andV_bl, orV_bl, notV_bl, List.set_cons_succ, List.set_cons_zero, Bool.not_true, Bool.not_false, Bool.true_and, add_int, sub_int, eq_int, ne_int, lt_int, le_int, gt_int, ge_int, int_int, int_bl, len_lst, len_tup, List.map_cons, List.map_nil, List.length_map, g1]
    by_cases c : v = 0
    · refine ⟨P2, i :: l', hP2, s.cons₂ i, ?_⟩
      rw [List.map_cons, comp_nm, t, calm_ok', an_ok, if_pos (by simp [c]), show cVar 4 (([some (.ref 0), e1, e2, e3, e4] : Env).set 4 (some (nD i))) [] [P1] = .ok (nD i) [P1] from rfl, calm_ok', an_ok, h, an_ok]
      rfl
    · refine ⟨P2, l', hP2, s.cons i, ?_⟩
      rw [List.map_cons, comp_nm, t, calm_ok', an_ok, if_neg (by simp [c]), h]
theorem chain_ok {cd : List D → M D} (hd : DrawSpec cd) : ChainSpec (runDef 1 5 (h_law_chain cd)) := by
  intro P hP
  have hs : sizeLine = 16777216 := rfl
  obtain ⟨v, P1, g1, a1, b1, hP1⟩ := hd P [] 7 hP (by decide) (by decide)
  obtain ⟨m, rfl⟩ := Int.eq_ofNat_of_zero_le a1
  have e1 : (1 : Int) + (m : Int) = ((m + 1 : Nat) : Int) := by omega
  obtain ⟨P2, l, hP2, sl, g2⟩ := draw_comp hd (e1 := some (nD (m + 1))) (e2 := some (seenD (chMo (m + 1) []))) (e3 := none) (e4 := none) (List.range (m + 1)) P1 hP1
  refine ⟨P2, chMo (m + 1) l, hP2, chMo_good (by omega) (by omega) sl, by show m + 1 ≤ 7; omega, ch_names, ?_⟩
  have rg : ∀ {e2 e3 e4 : Option D} {w : List D}, cRng1 (cArgs [cVar 1]) [some (.ref 0), some (nD (m + 1)), e2, e3, e4] [] w = .ok ((List.range (m + 1)).map nD) w := fun {e2 e3 e4 w} => by
    rw [x_rng1]
    simp only [x_and, x_or, x_not, x_andT, x_orT, x_notT, x_tru, x_test, x_bin, x_un, x_tup, x_lst, x_call, x_call0, x_args, x_args0, x_var, x_k, x_one, x_nil, x_if, List.getElem?_cons_zero, List.getElem?_cons_succ, ofO_ss, an_ok, List.length_cons, List.length_nil, Nat.zero_add, Nat.reduceAdd, if_true, Bool.false_eq_true, if_false, see_int, see_str, see_bl, see_lst, see_tup, see_non, bool_bl, truth_bl, st_ok, oan_nx, oan_rt, oan_bk, oan_ct, fin_rt, fin_nx, tn_nx, tn_rt, tn_ct, tn_bk, andV_bl, orV_bl, notV_bl, List.set_cons_succ, List.set_cons_zero, Bool.not_true, Bool.not_false, Bool.true_and, add_int, sub_int, eq_int, ne_int, lt_int, le_int, gt_int, ge_int, int_int, int_bl, len_lst, len_tup, List.map_cons, List.map_nil, List.length_map]
    exact rng_n (show (chMo (m + 1) []).n < 25 by show m + 1 < 25; omega)
  have small : (chMo (m + 1) []).n < 25 := by show m + 1 < 25; omega
  have inner : ∀ i, i < m + 1 → cComp (.nm 4) [4] (cRng1 (cArgs [cVar 1])) (cYes) (cOr (cBin gEq (cVar 4) (cBin gAdd (cVar 3) (cK (.int 1)))) (cAnd (cBin gEq (cVar 4) (cVar 3)) (cAnd (cBin gEq (cVar 3) (cBin gSub (cVar 1) (cK (.int 1)))) (cBin gEq (cBin gMod (cVar 1) (cK (.int 2))) (cK (.int 0)))))) kStill [some (.ref 0), some (nD (m + 1)), none, some (nD i), none] [] [P1] = .ok (.lst ((List.range (m + 1)).map fun j => .bl (chS (m + 1) i j))) [P1] := fun i hi => by
    have c := comp_rng (A := chMo (m + 1) []) small (o := 4) (env := [some (.ref 0), some (nD (m + 1)), none, some (nD i), none]) (ro := []) (w := [P1]) (it := cRng1 (cArgs [cVar 1])) (ta := cYes) (fa := cOr (cBin gEq (cVar 4) (cBin gAdd (cVar 3) (cK (.int 1)))) (cAnd (cBin gEq (cVar 4) (cVar 3)) (cAnd (cBin gEq (cVar 3) (cBin gSub (cVar 1) (cK (.int 1)))) (cBin gEq (cBin gMod (cVar 1) (cK (.int 2))) (cK (.int 0)))))) (p := fun _ => true) (g := fun j => .bl (chS (m + 1) i j)) rg (fun _ _ => rfl) (fun j hj _ => by
      show cOr _ _ [some (.ref 0), some (nD (m + 1)), none, some (nD i), some (nD j)] [] [P1] = _
      simp only [x_and, x_or, x_not, x_andT, x_orT, x_notT, x_tru, x_test, x_bin, x_un, x_tup, x_lst, x_call, x_call0, x_args, x_args0, x_var, x_k, x_one, x_nil, x_if, List.getElem?_cons_zero, List.getElem?_cons_succ, ofO_ss, an_ok, List.length_cons, List.length_nil, Nat.zero_add, Nat.reduceAdd, if_true, Bool.false_eq_true, if_false, see_int, see_str, see_bl, see_lst, see_tup, see_non, bool_bl, truth_bl, st_ok, oan_nx, oan_rt, oan_bk, oan_ct, fin_rt, fin_nx, tn_nx, tn_rt, tn_ct, tn_bk, andV_bl, orV_bl, notV_bl, List.set_cons_succ, List.set_cons_zero, Bool.not_true, Bool.not_false, Bool.true_and, add_int, sub_int, eq_int, ne_int, lt_int, le_int, gt_int, ge_int, int_int, int_bl, len_lst, len_tup, List.map_cons, List.map_nil, List.length_map, mod_int]
      unfold chS
      cases decide ((j : Int) = (i : Int) + 1) <;> cases decide ((j : Int) = (i : Int)) <;> cases decide ((i : Int) = ((m + 1 : Nat) : Int) - 1) <;> simp [mod_int, eq_int])
    rw [List.filter_eq_self.mpr (fun _ _ => rfl)] at c
    exact c
  have c2 := comp_rng (A := chMo (m + 1) []) small (o := 3) (env := [some (.ref 0), some (nD (m + 1)), none, none, none]) (ro := []) (w := [P1]) (it := cRng1 (cArgs [cVar 1])) (ta := cYes) (fa := cComp (.nm 4) [4] (cRng1 (cArgs [cVar 1])) (cYes) (cOr (cBin gEq (cVar 4) (cBin gAdd (cVar 3) (cK (.int 1)))) (cAnd (cBin gEq (cVar 4) (cVar 3)) (cAnd (cBin gEq (cVar 3) (cBin gSub (cVar 1) (cK (.int 1)))) (cBin gEq (cBin gMod (cVar 1) (cK (.int 2))) (cK (.int 0)))))) kStill) (p := fun _ => true) (g := fun i => .lst ((List.range (m + 1)).map fun j => .bl (chS (m + 1) i j))) rg (fun _ _ => rfl) (fun i hi _ => inner i hi)
  rw [List.filter_eq_self.mpr (fun _ _ => rfl)] at c2
  have c2' : cComp (.nm 3) [3] (cRng1 (cArgs [cVar 1])) (cYes) (cComp (.nm 4) [4] (cRng1 (cArgs [cVar 1])) (cYes) (cOr (cBin gEq (cVar 4) (cBin gAdd (cVar 3) (cK (.int 1)))) (cAnd (cBin gEq (cVar 4) (cVar 3)) (cAnd (cBin gEq (cVar 3) (cBin gSub (cVar 1) (cK (.int 1)))) (cBin gEq (cBin gMod (cVar 1) (cK (.int 2))) (cK (.int 0)))))) kStill) kStill [some (.ref 0), some (nD (m + 1)), none, none, none] [] [P1] = .ok (seenD (chMo (m + 1) [])) [P1] := c2
  have q1 : cComp (.nm 4) [4] (cRng1 (cArgs [cVar 1])) (cTest (cBin gEq (cCall (fun ds => if ds.length = 2 then cd ds else M.no) (cArgs [cVar 0, cK (.int 8)])) (cK (.int 0)))) (cVar 4) kStill [some (.ref 0), some (nD (m + 1)), some (seenD (chMo (m + 1) [])), none, none] [] [P1] = .ok (nsD l) [P2] := by
    rw [x_comp, rg, an_ok, if_pos (by rw [List.length_map, List.length_range]; omega), show wipeE ([some (.ref 0), some (nD (m + 1)), some (seenD (chMo (m + 1) [])), none, none] : Env) [4] = [some (.ref 0), some (nD (m + 1)), some (seenD (chMo (m + 1) [])), none, none] from rfl, g2, an_ok, x_still]
  have gd : gDisp [(.str "p", nsD l)] [] [P2] = .ok (vD (chMo (m + 1) l).v) [P2] := rfl
  have dc : cDisp [((cK (.str "p")), (cComp (.nm 4) [4] (cRng1 (cArgs [cVar 1])) (cTest (cBin gEq (cCall (fun ds => if ds.length = 2 then cd ds else M.no) (cArgs [cVar 0, cK (.int 8)])) (cK (.int 0)))) (cVar 4) kStill))] [some (.ref 0), some (nD (m + 1)), some (seenD (chMo (m + 1) [])), none, none] [] [P1] = .ok (vD (chMo (m + 1) l).v) [P2] := by
    show M.bind (cPairs _ _) gDisp [] [P1] = _
    simp only [cPairs, x_bind, x_k, an_ok]
    rw [q1]
    exact gd
  have s1 : sSet 1 (cBin gAdd (cK (.int 1)) (cCall (fun ds => if ds.length = 2 then cd ds else M.no) (cArgs [cVar 0, cK (.int 7)]))) [some (.ref 0), none, none, none, none] [] [P] = .go .nx [some (.ref 0), some (nD (m + 1)), none, none, none] [P1] := by
    rw [x_set]
    simp only [x_and, x_or, x_not, x_andT, x_orT, x_notT, x_tru, x_test, x_bin, x_un, x_tup, x_lst, x_call, x_call0, x_args, x_args0, x_var, x_k, x_one, x_nil, x_if, List.getElem?_cons_zero, List.getElem?_cons_succ, ofO_ss, an_ok, List.length_cons, List.length_nil, Nat.zero_add, Nat.reduceAdd, if_true, Bool.false_eq_true, if_false, see_int, see_str, see_bl, see_lst, see_tup, see_non, bool_bl, truth_bl, st_ok, oan_nx, oan_rt, oan_bk, oan_ct, fin_rt, fin_nx, tn_nx, tn_rt, tn_ct, tn_bk, andV_bl, orV_bl, notV_bl, List.set_cons_succ, List.set_cons_zero, Bool.not_true, Bool.not_false, Bool.true_and, add_int, sub_int, eq_int, ne_int, lt_int, le_int, gt_int, ge_int, int_int, int_bl, len_lst, len_tup, List.map_cons, List.map_nil, List.length_map, g1, e1]
  have q2 : ∀ w, cVar 2 [some (.ref 0), some (nD (m + 1)), some (seenD (chMo (m + 1) [])), none, none] [] w = .ok (seenD (chMo (m + 1) l)) w := fun _ => rfl
  rw [x_def]
  simp only [List.length_cons, List.length_nil, Nat.zero_add, Nat.reduceAdd, if_true, List.map_cons, List.map_nil, Nat.reduceSub, List.replicate, List.cons_append, List.nil_append]
  unfold h_law_chain
  rw [x_seq, s1, oan_nx, x_seq, x_set, c2', st_ok, oan_nx, x_ret, x_tup]
  have ag : cArgs [cVar 2, cDisp [((cK (.str "p")), (cComp (.nm 4) [4] (cRng1 (cArgs [cVar 1])) (cTest (cBin gEq (cCall (fun ds => if ds.length = 2 then cd ds else M.no) (cArgs [cVar 0, cK (.int 8)])) (cK (.int 0)))) (cVar 4) kStill))]] [some (.ref 0), some (nD (m + 1)), some (seenD (chMo (m + 1) [])), none, none] [] [P1] = .ok [seenD (chMo (m + 1) l), vD (chMo (m + 1) l).v] [P2] := by
    simp only [x_args, x_args0, q2, dc, an_ok]
  have ag' : cArgs [cVar 2, cDisp [((cK (.str "p")), (cComp (.nm 4) [4] (cRng1 (cArgs [cVar 1])) (cTest (cBin gEq (cCall (fun ds => if ds.length = 2 then cd ds else M.no) (cArgs [cVar 0, cK (.int 8)])) (cK (.int 0)))) (cVar 4) kStill))]] (([some (.ref 0), some (nD (m + 1)), none, none, none] : Env).set 2 (some (seenD (chMo (m + 1) [])))) [] [P1] = _ := ag
  rw [ag']
  rfl
end
end Fx
/-! What is told at round r no formula of less depth tells. -/
namespace Fx
open PySem PySem.Spec L2
section
variable {A B : Mo}
end
end Fx
/-! Comprehensions that fill an object of any kind; dicts with nested keys made so. -/
namespace Fx
open PySem PySem.Spec L2 PyProof.Rows
/-- what stands behind the test: where to, in which block, what then, what if it fails -/
abbrev Fill := Addr → PySem.Env → (Shared → Prop) → (Value → Shared → Prop) → Shared → Prop
abbrev errB (P : Program) (w : World) (A : Around) (env : PySem.Env) (R : Result → Shared → Prop) : Value → Shared → Prop := notedBy (model P w) A env fun x s' => R (.error x) s'
/-- a comprehension of one for -/
structure CompK (P : Program) (w : World) (A : Around) (e tg iter : Expr) (ifs : List Expr) (newAcc : Sem Value) (ob : Obj) (fill : Fill) : Prop where
  cl : ∃ r, clausesOf e = ⟨tg, iter, ifs, 0⟩ :: r
  new : ∀ {s : Shared} {Q E : Value → Shared → Prop}, Q (.ref s.heap.objs.size) { s with heap := s.heap.push ob } → wpAny (model P w) A newAcc Q E s
  loop : ∀ {R : Result → Shared → Prop} {s : Shared} {it : Value} {D : Addr} {env : PySem.Env} (J : Nat → Shared → Prop),
    (∀ n s, J n s → wpAny (model P w) A (pyNext it) (fun r s1 => match r with
      | none => R (.ok .next) s1
      | some v => wpAny (model P w) A (letOwnedTupleGo tg it v) (fun _ s2 => wpAny (model P w) A (assign tg env v) (fun _ s3 =>
          wpAny (model P w) A (forIn ifs true fun c r => if r = true then do let ok ← isTrue c env (eval c env); pure (ForInStep.yield ok) else pure (ForInStep.yield r)) (fun ok s4 =>
            if ok = true then fill D env (fun s5 => ∃ m, m < n ∧ J m s5) (errB P w A env R) s4 else ∃ m, m < n ∧ J m s4) (errB P w A env R) s3) (errB P w A env R) s2) (errB P w A env R) s1) (errB P w A env R) s) →
    ∀ n, J n s → codeAny (model P w) A (.compLoop e 0 it (.ref D) env) R s
  start : ∀ {R : Result → Shared → Prop} {s : Shared} {it acc : Value} {env : PySem.Env}, codeAny (model P w) A (.compLoop e 0 it acc env) R s →
    wpAny (model P w) A (pyIter it) (fun it' s' => codeAny (model P w) A (.compLoop e 0 it' acc env) R s') (errB P w A env R) s → codeAny (model P w) A (.compStart e 0 it acc env) R s
section
variable {X : Cx} {pins : List (Addr × Obj)} {s : Shared} {σ : L2.St} {H : Hp} {Q : VK} {e tg iter : Expr} {ifs : List Expr} {newAcc : Sem Value} {ob : Obj} {fill : Fill} {scope : Scope} {own : List (Str × Nat)} {pos' : Pos} {wi : TI} {g : TG} {tt : TT} {O : Addr → HO} {body : Addr → L2.St → Hp → (Hp → Prop) → Prop}
end
/-! ### dicts with nested keys -/
section
variable {X : Cx} {kx vx tg iter : Expr} {ifs : List Expr} {scope : Scope} {own : List (Str × Nat)} {pos : Pos} {wi : TI} {g : TG} {tt : TT} {tk tv : TE}
end
section
variable {C : Cfg} {W : WX} {σ : L2.St} {ρ : Zn} {H : Hp} {ro w : List D}
end
section
variable {X : Cx} {W : WX} {kx vx tg iter : Expr} {ifs : List Expr} {scope : Scope} {own : List (Str × Nat)} {pos : Pos} {it : Env → M (List D)} {tt : Env → M Bool} {fk fv : EF} {t : Tg} {σ : L2.St} {H : Hp}
end
/-! ### {} that stays -/
end Fx
/-! Formulas that tell two worlds apart: plain. -/
namespace Fx
open PySem PySem.Spec L2
section
variable {A B : Mo}
/-! ### the rounds -/
structure Tells (A B : Mo) (φ : Fm) (p : Nat × Nat) (rd : Nat) : Prop where
  md : Fo.md φ = rd
  l : A.sem false φ p.1 = true
  r : B.sem false φ p.2 = false
  ht : φ.ht ≤ 2 + 9 * rd
  ok : φ.Over SOk
end
end Fx
/-! Formulas that tell: the walk. -/
namespace Fx
open PySem PySem.Spec L2
section
variable {ro w : List D} {env : Env}
end
section
variable {ro w : List D} {env : Env} {A B : Mo}
end
/-! ### joined -/
section
variable {ro w : List D} {env : Env} {A B : Mo}
end
section
variable {ro w : List D} {env : Env} {A B : Mo}
end
section
variable {ro w : List D} {env : Env} {A B : Mo}
structure TellSpec (A B : Mo) (f : List D → M D) : Prop where
  not : ∀ (v u : Nat) (ro w : List D), v < A.n → u < B.n → kF (LF A B) (v, u) = false → f [A.progD, nD v, B.progD, nD u] ro w = .exn "NotTold" [] [] w
  yes : ∀ (v u r : Nat) (ro w : List D), ((v, u), r) ∈ LF A B → ∃ φ : Fm, f [A.progD, nD v, B.progD, nD u] ro w = .ok φ.toD w ∧ Tells A B φ (v, u) r
end
end Fx
/-! sorted({(.., ..) for ..}), the pairs of small numbers. -/
namespace Fx
open PySem PySem.Spec L2 PyProof.Rows
section
variable {P : Program} {w : World} {A : Around} {elt tg iter : Expr} {ifs : List Expr} {scope : Scope} {pos : Pos}
end
section
variable {X : Cx} {elt tg iter : Expr} {ifs : List Expr} {scope : Scope} {own : List (Str × Nat)} {pos : Pos} {wi : TI} {g : TG} {tt : TT} {te : TE}
end
/-! ### plain: ascending pairs -/
def cd2 (p : Nat × Nat) : Int := TS.code 64 [p.1, p.2]
/-! ### the rule -/
def prOf : D → Option (Nat × Nat)
  | .tup [.int i, .int j] => if 0 ≤ i ∧ i.natAbs < 64 ∧ 0 ≤ j ∧ j.natAbs < 64 then some (i.toNat, j.toNat) else none
  | _ => none
def hasP (r : List D) (p : Nat × Nat) : Bool := r.any fun d => decide (prOf d = some p)
section
variable {C : Cfg} {W : WX} {σ : L2.St} {ρ : Zn} {H : Hp} {ro w : List D}
/-- what the set holds, told by the pairs that were put into it -/
structure SetP (C : Cfg) (ρ : Zn) (H : Hp) (L : List (Addr × List Int)) (acc : List D) : Prop where
  rep : ∀ e ∈ L, ∃ p : Nat × Nat, e.2 = [(p.1 : Int), (p.2 : Int)] ∧ p.1 < 64 ∧ p.2 < 64 ∧ hasP acc p = true ∧ Rep C ρ H (prD p) (.ref e.1)
  all : ∀ p : Nat × Nat, hasP acc p = true → [(p.1 : Int), (p.2 : Int)] ∈ L.map (·.2)
  len : L.length ≤ acc.length
theorem SetP.mono {ρ' : Zn} {H' : Hp} {L : List (Addr × List Int)} {acc : List D} (h : SetP C ρ H L acc) (k : ∀ d v, Rep C ρ H d v → Rep C ρ' H' d v) : SetP C ρ' H' L acc :=
  ⟨fun e he => let ⟨p, a, b, c, d, r⟩ := h.rep e he; ⟨p, a, b, c, d, k _ _ r⟩, h.all, h.len⟩
end
section
variable {X : Cx} {W : WX} {elt tg iter : Expr} {ifs : List Expr} {scope : Scope} {own : List (Str × Nat)} {p1 pos q1 : Pos} {it : Env → M (List D)} {tt : Env → M Bool} {fe : EF} {t : Tg} {σ : L2.St} {H : Hp}
end
end Fx
/-! The smallest model: plain. -/
namespace Fx
open PySem PySem.Spec L2
theorem srt_asc (l : List Nat) : (srt l).Pairwise (· < ·) := (asc_setK (f := fun i : Nat => (i : Int)) l).imp fun {x y} h => by simpa using h
theorem mem_srt {l : List Nat} {x : Nat} : x ∈ srt l ↔ x ∈ l := mem_setK fun x _ y _ h => by have h : (x : Int) = y := h; omega
section
variable {A : Mo}
/-- the worlds that are like v -/
def cand (A : Mo) (v : Nat) : List Nat := (List.range A.n).filter fun w => !kF (LF A A) (v, w)
def lst1 (A : Mo) (v : Nat) : Nat := (cand A v).headD 0
def lsts (A : Mo) : List Nat := (List.range A.n).map (lst1 A)
def ordQ (A : Mo) : List Nat := srt (lsts A)
def num (A : Mo) (v : Nat) : Nat := (ordQ A).idxOf (lst1 A v)
/-! ### the model of the classes -/
theorem mem_prs {A : Mo} {p : Nat × Nat} : p ∈ A.pairs ↔ p.1 < A.n ∧ p.2 < A.n ∧ A.s p.1 p.2 = true := by
  rw [← pairs_grid, List.mem_filter]
  obtain ⟨v, w⟩ := p
  rw [mem_grid]
  exact ⟨fun ⟨⟨a, b⟩, c⟩ => ⟨a, b, c⟩, fun ⟨a, b, c⟩ => ⟨⟨a, b⟩, c⟩⟩
end
end Fx
/-! Sets of nested tuples, fewer than 64 of them. The table's own laws are the kit's (L2); here they are used for the kind of nested keys. -/
namespace NS
open PySem PySem.Spec L2 PyProof.Rows
abbrev kh (w : World) (k : NestedKey) : Int := k.hash w
/-- the tuple at a is the key k -/
def IsN (h : Heap) (k : NestedKey) (a : Addr) : Prop := NestedIs h k (.ref a) ∧ k.depth ≤ 8
abbrev KL := List (Addr × NestedKey)
section
variable {P : Program} {w : World}
theorem IsN.one {h : Heap} {k k' : NestedKey} {a : Addr} (x : IsN h k a) (y : IsN h k' a) : k = k' := NestedIs.inj _ _ _ x.1 y.1
theorem IsN.keep {h h' : Heap} {k : NestedKey} {a : Addr} (x : IsN h k a) (g : ∀ b o, h.get? b = some o → h'.get? b = some o) : IsN h' k a := ⟨NestedIs.at (fun b o vs n e _ => g b o e) _ _ x.1, x.2⟩
/-! ### small questions asked of keys -/
/-! ### the set -/
def rws (w : World) (L : KL) : List (Int × Value) := L.map fun p => (kh w p.2, Value.ref p.1)
abbrev hsh (w : World) (L : KL) : List Int := L.map fun p => kh w p.2
/-- the rows of the set at a, and its table; nothing is said of whether the hashes are by value -/
structure SetK (w : World) (h : Heap) (a : Addr) (L : KL) (es : Array (Int × Value)) (ep : Nat) (t : SetTable) : Prop where
  ob : ∃ o, h.get? a = some o ∧ o.ExactSet ∧ o.data = .set es ep t
  rows : es.toList = rws w L
  tab : TabOk t (hsh w L)
  nd : (L.map (·.2)).Nodup
  keys : ∀ p ∈ L, IsN h p.2 p.1
  led : w.params.followText "set-order" = true ∨ t.led = true
  room : L.length * 5 < t.mask * 3
  few : L.length < 64
section
variable {A : Around} {E : Value → Shared → Prop} {s : Shared} {a : Addr} {L : KL} {es : Array (Int × Value)} {ep : Nat} {t : SetTable}
theorem rws_len (L : KL) (h : es.toList = rws w L) : es.size = L.length := by
  rw [← Array.length_toList, h]
  unfold rws
  rw [List.length_map]
theorem fits_of {hs : List Int} (T : TabOk t hs) (hn : hs.length ≤ t.mask) {n : Nat} (e : n = hs.length) : t.fits n = true := by
  have := T.sz
  unfold SetTable.fits SetTable.fill
  rw [T.dm, Bool.and_eq_true, beq_iff_eq, decide_eq_true_eq]
  refine ⟨by omega, ?_⟩
  show t.place.size + 0 ≤ t.mask
  omega
theorem SetK.fits (R : SetK w s.heap a L es ep t) : t.fits es.size = true := by
  have h := R.room
  have hl : (hsh w L).length = L.length := List.length_map _
  exact fits_of R.tab (by omega) (by rw [rws_len L R.rows, hl])
end
/-! ### adding -/
section
variable {A : Around} {E : Value → Shared → Prop} {s : Shared} {a : Addr} {L : KL} {es : Array (Int × Value)} {ep : Nat} {t : SetTable}
/-- what holds of the rows before the table is laid anew -/
structure PreK (w : World) (h : Heap) (a : Addr) (L : KL) (es : Array (Int × Value)) (ep : Nat) (t : SetTable) : Prop where
  ob : ∃ o, h.get? a = some o ∧ o.ExactSet ∧ o.data = .set es ep t
  rows : es.toList = rws w L
  tab : TabOk t (hsh w L)
  nd : (L.map (·.2)).Nodup
  keys : ∀ p ∈ L, IsN h p.2 p.1
  led : w.params.followText "set-order" = true ∨ t.led = true
  fit : L.length ≤ t.mask
  few : L.length < 64
end
/-! ### set(..) -/
/-- what the set has of the first i items -/
structure Had (ks : KL) (i : Nat) (L : KL) : Prop where
  sub : ∀ p ∈ L, p ∈ ks.take i
  all : ∀ p ∈ ks.take i, p.2 ∈ L.map (·.2)
  len : L.length ≤ i
theorem Had.step {ks L L' : KL} {i : Nat} {x : Addr × NestedKey} (g : Had ks i L) (h : ks[i]? = some x) (c1 : x.2 ∈ L.map (·.2) → L' = L) (c2 : x.2 ∉ L.map (·.2) → L'.Perm (x :: L)) : Had ks (i + 1) L' := by
  have tn := take_next h
  rcases Classical.em (x.2 ∈ L.map (·.2)) with c | c
  · rw [c1 c]
    refine ⟨fun p hp => by rw [tn]; exact List.mem_append_left _ (g.sub p hp), fun p hp => ?_, Nat.le_succ_of_le g.len⟩
    rw [tn] at hp
    rcases List.mem_append.mp hp with z | z
    · exact g.all p z
    · rw [List.mem_singleton.mp z]; exact c
  · have pm := c2 c
    refine ⟨fun p hp => ?_, fun p hp => ?_, by rw [pm.length_eq]; exact Nat.succ_le_succ g.len⟩
    · rw [tn]
      rcases List.mem_cons.mp (pm.mem_iff.mp hp) with e | z
      · rw [e]; exact List.mem_append_right _ (List.mem_singleton.mpr rfl)
      · exact List.mem_append_left _ (g.sub p z)
    · rw [(pm.map (·.2)).mem_iff, List.map_cons]
      rw [tn] at hp
      rcases List.mem_append.mp hp with z | z
      · exact List.mem_cons_of_mem _ (g.all p z)
      · rw [List.mem_singleton.mp z]; exact List.mem_cons_self
theorem SetK.keep {h h' : Heap} {a : Addr} {L : KL} {es : Array (Int × Value)} {ep : Nat} {t : SetTable} (R : SetK w h a L es ep t) (ha : ∀ o, h.get? a = some o → h'.get? a = some o) (hk : ∀ p ∈ L, IsN h' p.2 p.1) : SetK w h' a L es ep t := by
  obtain ⟨o, ho, r⟩ := R.ob
  exact { R with ob := ⟨o, ha o ho, r⟩, keys := hk }
section
variable {A : Around} {E : Value → Shared → Prop} {s : Shared}
end
end
end NS
/-! set(xs) of a list, of a tuple of keys (printed by mkset2.py). -/
namespace NS
open PySem PySem.Spec L2 PyProof.Rows
section
variable {P : Program} {w : World}
variable {A : Around} {E : Value → Shared → Prop} {s : Shared}
end
end NS
/-! sorted(set(xs)), xs a list or a tuple of nested tuples. -/
namespace Fx
open PySem PySem.Spec L2 PyProof.Rows PySem.W NS
/-- the set at a, without its keys -/
structure SetK0 (w : World) (h : Heap) (a : Addr) (L : NS.KL) : Prop where
  ex : ∃ (es : Array (Int × Value)) (ep : Nat) (t : SetTable), (∃ o, h.get? a = some o ∧ o.ExactSet ∧ o.data = .set es ep t) ∧ es.toList = rws w L ∧ L2.TabOk t (hsh w L) ∧ (L.map (·.2)).Nodup ∧ (w.params.followText "set-order" = true ∨ t.led = true) ∧ L.length * 5 < t.mask * 3 ∧ L.length < 64
/-- the key at an address -/
def Kp (X : Cx) (H : Hp) (p : Addr × NestedKey) : Prop := p.2.depth ≤ 8 ∧ ∃ ρ, toKey (ofKey p.2) = some p.2 ∧ Rep (cfg X) ρ H (ofKey p.2) (.ref p.1)
section
variable {X : Cx}
theorem Kp.is {pins : List (Addr × Obj)} {σ : L2.St} {H : Hp} {s : Shared} (I : Inv X pins σ H s) {p : Addr × NestedKey} (h : Kp X H p) : NS.IsN s.heap p.2 p.1 := by
  obtain ⟨h1, ρ, h2, h3⟩ := h
  exact ⟨Rep.nest I _ h2 h3 (show RelV (.ref p.1) (Value.ref p.1) from rfl), h1⟩
end
end Fx
/-! sorted(set(xs)) of nested tuples: what it does to trees. -/
namespace Fx
open PySem PySem.Spec L2 PyProof.Rows PySem.W NS
section
variable {X : Cx} {W : WX}
end
/-! ### of things that are sorted -/
section
variable {α : Type} [DecidableEq α] (S : Sk α)
def uniqS : List α → List α
  | [] => []
  | a :: l => if a ∈ uniqS l then uniqS l else a :: uniqS l
/-- ascending, each once -/
def asc (l : List α) : List α := S.sort (uniqS l)
end
end Fx
/-! A def with *args: its promise is kept from the state in which the tuple of the further arguments has been made. -/
namespace Fx
open PySem PySem.Spec L2 PyProof.Rows PySem.W
/-- a def whose last parameter takes the further arguments: run from the state s1 in which they are bound -/
structure FnOkV (P : Program) (w : World) (K : PySem.W.Frag) (mg : Str → Option Value) (base : Heap) (k : Nat) (f : Addr) (fd : FuncData) (ps : List Str) (sp : Sp) : Prop where
  len : ∀ vs H Q E, sp vs H Q E → vs.length = ps.length
  run : ∀ (A : Around) (outer : List PySem.Env) (s s1 : Shared) (H : Hp) (args : Args) (us : List Value) (vs : List V) (Q : VK) (E : XK), Room k A → K.In s.heap → Env0 P w K mg base A outer s1 H →
    (∀ (M : Model) (A : Around) (E : Value → Shared → Prop) (Q : List (Str × Value) → Shared → Prop), Q (ps.zip us) s1 → wpAny M A (bindArgs fd args) Q E s) → Vals vs us → sp vs H Q E →
    codeAny (model P w) A (.call (.ref f) args) (CR (L2.CX P w) outer P w H s1 Q E) s
/-- the further arguments in a new tuple -/
def Further (fd : FuncData) (ps : List Str) (m n : Nat) : Prop := ∀ us : List Value, us.length = n → bindArgs fd ⟨us, []⟩ = (newTuple (us.drop m) >>= fun t => pure (ps.zip (us.take m ++ [t])))
section
variable {P : Program} {w : World} {K : PySem.W.Frag} {mg : Str → Option Value} {base : Heap}
end
/-- a def with *args of the top, by its name: m parameters ahead of them; it's called with as many arguments as ns tells -/
structure CallOkV (P : Program) (w : World) (K : PySem.W.Frag) (mg : Str → Option Value) (base : Heap) (n : Nat) (x : Str) (g : List D → M D) (m : Nat) (ns : List Nat) : Prop where
  ex : ∃ a fd ps, mg x = some (.ref a) ∧ PySem.W.keepIn K (.ref a) = true ∧ (∀ j ∈ ns, Further fd ps m j) ∧ ps.length = m + 1 ∧ FnOkV P w K mg base n a fd ps (spF ⟨K, mg, w⟩ g (m + 1))
section
variable {X : Cx} {W : WX} {pos p : Pos} {e : Expr} {es : List Expr} {x : Str} {g : List D → M D} {m n : Nat} {ns : List Nat} {fs : Fx.Env → M (List D)}
end
end Fx
/-! A constant table of defs: a key in it, a call of what stands in it. -/
namespace Fx
open PySem PySem.Spec L2 PyProof.Rows PySem.W
/-- a table with some keys that it lacks -/
structure TabF (C : Cfg) (x : Str) (rows : List (Str × D)) (miss : List Str) : Prop where
  ex : ∃ p, C.mg x = some (.ref p) ∧ (p == sysModules) = false ∧ (∀ q ∈ rows, ∃ v, KDct C.K C.w p q.1 v ∧ KD C q.2 v) ∧ ∀ z ∈ miss, KMiss C.K C.w p z
def tabHas (rows : List (Str × D)) (x : Str) : Bool := rows.any fun q => decide (q.1 = x)
section
variable {X : Cx} {W : WX} {pos p pos' : Pos} {e ef : Expr} {es : List Expr} {x : Str} {rows : List (Str × D)} {miss : List Str} {fe ff : EF} {n : Nat} {fs : Fx.Env → M (List D)}
theorem TabF.tab (T : TabF (cfg X) x rows miss) : TabK (cfg X) x rows := by
  obtain ⟨p, h1, _, h2, _⟩ := T.ex
  exact ⟨⟨p, h1, h2⟩⟩
end
section
variable {ro w : List D} {env : Fx.Env} {fe : EF} {rows : List (Str × D)} {miss : List Str}
end
end Fx
/-! Sets of texts, fewer than 64 of them: what they are, adding, set(xs). -/
namespace NT
open PySem PySem.Spec L2 PyProof.Rows
def keyT (e : Int × Value) : Str := match e.2 with | .str k _ => k | _ => Str.empty
def GoodT (w : World) (e : Int × Value) : Prop := ∃ k u, e.2 = Value.str k u ∧ e.1 = hashStr w k
/-- the set at a has the texts ks -/
def SetX (w : World) (h : Heap) (a : Addr) (ks : List Str) : Prop :=
  ∃ o rows ep t, h.get? a = some o ∧ o.ExactSet ∧ o.data = .set rows ep t ∧ (∀ e ∈ rows.toList, GoodT w e) ∧ (rows.toList.map keyT).Nodup ∧ (∀ k, k ∈ rows.toList.map keyT ↔ k ∈ ks) ∧
    rows.size ≤ ks.length ∧ ks.length < 64 ∧ t.fits rows.size = true ∧ Ris t.place.toList ∧ (w.params.followText "set-order" = true ∨ t.led = true)
section
variable {P : Program} {w : World} {h h' : Heap} {a : Addr} {ks : List Str}
theorem SetX.keep (R : SetX w h a ks) (g : ∀ o, h.get? a = some o → h'.get? a = some o) : SetX w h' a ks := by
  obtain ⟨o, rows, ep, t, po, r⟩ := R
  exact ⟨o, rows, ep, t, g o po, r⟩
end
section
variable {P : Program} {w : World} {A : Around} {E : Value → Shared → Prop} {s : Shared} {a : Addr} {ks : List Str}
end
end NT
/-! sorted(set(xs)), xs a list of texts. -/
namespace NT
open PySem PySem.Spec L2 PyProof.Rows
section
variable {P : Program} {w : World} {A : Around} {E : Value → Shared → Prop} {s : Shared}
end
end NT
namespace Fx
open PySem PySem.Spec L2 PyProof.Rows PySem.W NT
section
variable {X : Cx}
end
/-! ### over trees -/
def strsOf : List D → Option (List Str)
  | [] => some []
  | .str x :: ds => (strsOf ds).map (x :: ·)
  | _ => none
theorem strsOf_map : ∀ (xs : List Str), strsOf (xs.map .str) = some xs
  | [] => rfl
  | x :: xs => by
    show (strsOf (xs.map .str)).map (x :: ·) = _
    rw [strsOf_map xs]
    rfl
theorem strsOf_eq : ∀ {ds : List D} {xs : List Str}, strsOf ds = some xs → ds = xs.map .str
  | [], xs, h => by cases h; rfl
  | d :: ds, xs, h => by
    cases d with
    | str x =>
      have h' : (strsOf ds).map (x :: ·) = some xs := h
      cases e : strsOf ds with
      | none => rw [e] at h'; cases h'
      | some ys =>
        rw [e] at h'
        cases h'
        rw [strsOf_eq e]
        rfl
    | _ => cases h
section
variable {X : Cx} {W : WX}
end
end Fx
/-! {k: v for a in .. for b in ..}, keys numbers or texts: the model's side. -/
namespace Fx
open PySem PySem.Spec L2 PyProof.Rows
section
variable {P : Program} {w : World} {A : Around} {kx vx t0 i0 t1 i1 : Expr} {scope : Scope} {pos : Pos}
variable {ifs0 ifs1 : List Expr} {R : Result → Shared → Prop} {s : Shared} {it : Value} {D : Addr} {env : PySem.Env}
end

/-! ### the second clause's walk -/
section
variable {X : Cx} {kx vx tg iter tg1 iter1 : Expr} {scope : Scope} {own : List (Str × Nat)} {vs1 : List Nat} {pos : Pos} {wi wi1 : TI} {g g1 : TG} {tt : TT} {tk tv : TE}
end
end Fx
/-! {k: v for a in .. for b in ..} over trees: it stands still. -/
namespace Fx
open PySem PySem.Spec L2 PyProof.Rows
def dputP (p : List D × List D) (q : D × D) : List D × List D := if dhas p.1 q.1 = true then (p.1, dputX p.1 p.2 q.1 q.2) else (p.1 ++ [q.1], p.2 ++ [q.2])
def RelP (C : Cfg) (ρ : Zn) (H : Hp) (p : List D × List D) (kvs : List (Key × V)) : Prop := p.1.map keyOf = kvs.map (fun q => some q.1) ∧ Reps C ρ H p.2 (kvs.map (·.2))
section
variable {C : Cfg} {ρ ρ' : Zn} {H H' : Hp}
theorem RelP.put {p : List D × List D} {kvs : List (Key × V)} {k x : D} {κ : Key} {z : V} (h : RelP C ρ H p kvs) (hk : keyOf k = some κ) (hx : Rep C ρ H x z) : RelP C ρ H (dputP p (k, x)) (putK kvs κ z) := by
  obtain ⟨ks, xs, e, h1, h2⟩ := dput_rep hk hx h.1 h.2
  unfold dput at e
  unfold dputP
  simp only
  split at e
  · rename_i c
    rw [if_pos c]
    injection e with e1 e2
    subst e1 e2
    exact ⟨h1, h2⟩
  · rename_i c
    rw [if_neg c]
    injection e with e1 e2
    subst e1 e2
    exact ⟨h1, h2⟩
theorem RelP.ext {p : List D × List D} {kvs : List (Key × V)} (x : Ext ρ ρ' H H') (h : RelP C ρ H p kvs) : RelP C ρ' H' p kvs := ⟨h.1, Reps.ext x _ h.2⟩
theorem RelP.extR {p : List D × List D} {kvs : List (Key × V)} (x : ExtR ρ ρ' H H') (h : RelP C ρ H p kvs) : RelP C ρ' H' p kvs := ⟨h.1, Reps.extR x _ h.2⟩
end
section
variable {X : Cx} {C : Cfg} {W : WX} {σ : L2.St} {ρ : Zn} {H : Hp} {ro w : List D}
end
section
variable {X : Cx} {W : WX} {pos : Pos} {kx vx tg iter tg1 iter1 : Expr} {scope : Scope} {own : List (Str × Nat)} {it it1 : Env → M (List D)} {fk fv : EF} {i j : Nat} {σ : L2.St} {H : Hp}
end
/-! ### what it makes -/
end Fx
/-! Methods of texts with arguments: x.m(a, ..). -/
namespace Fx
open PySem PySem.Spec L2 PyProof.Rows PySem.W
def cStr (g : Str → List D → M D) (fo : EF) (fs : Env → M (List D)) : EF := fun env => M.bind (fo env) fun d => match d with
  | .str x => M.bind (fs env) fun ds => g x ds
  | _ => M.no
def OkS (C : Cfg) (r : V → List V → Hp → VK → Prop) (g : Str → List D → M D) : Prop :=
  ∀ (W : WX) (σ : L2.St) (ρ : Zn) (H : Hp) (ro w : List D) (x : Str) (ds : List D) (xs : List V) (Q : VK), RepS C ρ H (ro ++ w) → Reps C ρ H ds xs → AfterR C (Rep C) W σ ρ H ro (g x ds ro w) Q → r (.str x) xs H Q
section
variable {X : Cx} {W : WX} {fo : EF} {fs : Env → M (List D)} {r : V → List V → Hp → VK → Prop} {g : Str → List D → M D}
theorem tE_str (hr : OkS (cfg X) r g) {σ : L2.St} {H : Hp} {Q : VK} (q : tE (cfg X) W (cStr g fo fs) σ H Q) : tBM X.K "str" r (tE (cfg X) W fo) (tA (cfg X) W fs) σ H Q := by
  obtain ⟨ρ, env, ro, w, hS, hE, q⟩ := q
  refine tR_seq hS hE q fun d w1 v ρ1 H1 x1 s1 r1 q1 => ?_
  cases d with
  | str x =>
    cases (show v = .str x from r1)
    refine ⟨rfl, ?_⟩
    dsimp only at q1
    refine tR_seq s1 (hE.ext x1) q1 fun es w2 us ρ2 H2 x2 s2 r2 q2 => ?_
    exact hr W σ ρ2 H2 ro w2 x es us Q s2 r2 q2
  | _ => exact (show False from q1).elim
end
section
variable {env : Env} {ro w : List D} {fo : EF} {fs : Env → M (List D)}
theorem x_str {x : Str} {g : Str → List D → M D} (h : fo env ro w = .ok (.str x) w) : cStr g fo fs env ro w = (fs env ro w).an fun ds w1 => g x ds ro w1 := by
  show M.bind (fo env) _ ro w = _
  simp only [x_bind, h, an_ok]
end
end Fx
/-! A constant table: any text in it or not. -/
namespace Fx
open PySem PySem.Spec L2 PyProof.Rows PySem.W
structure TabG (C : Cfg) (x : Str) (rows : List (Str × D)) : Prop where
  ex : ∃ p, C.mg x = some (.ref p) ∧ (p == sysModules) = false ∧ (∀ q ∈ rows, ∃ v, KDct C.K C.w p q.1 v ∧ KD C q.2 v) ∧ ∀ z, tabHas rows z = false → KMiss C.K C.w p z
section
variable {X : Cx} {W : WX} {pos p pos' : Pos} {e : Expr} {x : Str} {rows : List (Str × D)} {fe : EF}
theorem TabG.tab (T : TabG (cfg X) x rows) : TabK (cfg X) x rows := by
  obtain ⟨p, h1, _, h2, _⟩ := T.ex
  exact ⟨⟨p, h1, h2⟩⟩
end
section
variable {X : Cx} {W : WX} {pos p : Pos} {x : Str} {g : List D → M D} {n : Nat}
end
section
variable {ro w : List D} {env : Fx.Env} {fe : EF} {rows : List (Str × D)}
end
end Fx
namespace Fx
open PySem PySem.Spec L2
/-! ### max of two numbers -/
def gMax2 : List D → M D
  | [.int i, .int j] => M.pure (.int (if j > i then j else i))
  | _ => M.no
@[simp] theorem max_int {i j : Int} {ro w : List D} : gMax2 [.int i, .int j] ro w = .ok (.int (if j > i then j else i)) w := rfl
end Fx
/-! str(number), x.split(y), x.find(y), f-strings. -/
namespace Fx
open PySem PySem.Spec L2 PyProof.Rows PySem.W
def rStrI : List V → Hp → VK → Prop := fun xs H Q => ∃ i, xs = [.int i] ∧ i.natAbs.log2 < 1920 ∧ Q (.str (toString i)) H
theorem cf_strI {X : Cx} : CallR X (.type "str") rStrI := call_str_int
def gStrI : D → M D
  | .int i => fun _ w => if i.natAbs.log2 < 1920 then .ok (.str (toString i)) w else .no
  | _ => M.no
theorem ok_strI {C : Cfg} : Ok1 C (fun xs H Q => rStrI xs H Q) gStrI := by
  intro W σ ρ H ro w d x Q hS hd q
  cases d with
  | int i =>
    unfold gStrI at q
    dsimp only at q
    by_cases c : i.natAbs.log2 < 1920
    · rw [if_pos c] at q
      exact ⟨i, by rw [hd.int], c, ok_str hS q⟩
    · rw [if_neg c] at q
      exact q.elim
  | _ => exact (show False from q).elim
section
variable {X : Cx} {W : WX} {fo : EF} {fs : Env → M (List D)}
def gSplit (x : Str) (ds : List D) : M D := match ds with
  | [.str y] => fun _ w => if (y.length == 0) = false ∧ x.length + 2 ≤ sizeLine then .ok (.lst ((Txt.split x y).map .str)) w else .no
  | _ => M.no
def gSplitM (x : Str) (ds : List D) : M D := match ds with
  | [.str y] => fun ro w => if (y.length == 0) = false ∧ x.length + 2 ≤ sizeLine then .ok (.ref (ro ++ w).length) (w ++ [.lst ((Txt.split x y).map .str)]) else .no
  | _ => M.no
def rSplit : V → List V → Hp → VK → Prop := fun x xs H Q => ∃ a b, x = .str a ∧ xs = [.str b] ∧ (b.length == 0) = false ∧ a.length + 2 ≤ sizeLine ∧ rNewStrs (Txt.split a b) H Q
theorem reps_strs' {C : Cfg} {ρ : Zn} {H : Hp} : ∀ xs : List Str, Reps C ρ H (xs.map D.str) (xs.map V.str)
  | [] => rfl
  | x :: xs => ⟨_, _, rfl, rfl, reps_strs' xs⟩
theorem oks_split {C : Cfg} : OkS C rSplit gSplit := by
  intro W σ ρ H ro w x ds xs Q hS hds q
  unfold gSplit at q
  split at q
  · rename_i y
    obtain ⟨v, vs, rfl, h1, h2⟩ := hds
    cases (show v = .str y from h1)
    cases (show vs = [] from h2)
    by_cases c : (y.length == 0) = false ∧ x.length + 2 ≤ sizeLine
    · rw [if_pos c] at q
      exact ⟨x, y, rfl, rfl, c.1, c.2, ok_lst hS (reps_strs' _) q⟩
    · rw [if_neg c] at q
      exact q.elim
  · exact (show False from q).elim
theorem oks_splitM {C : Cfg} : OkS C rSplit gSplitM := by
  intro W σ ρ H ro w x ds xs Q hS hds q
  unfold gSplitM at q
  split at q
  · rename_i y
    obtain ⟨v, vs, rfl, h1, h2⟩ := hds
    cases (show v = .str y from h1)
    cases (show vs = [] from h2)
    by_cases c : (y.length == 0) = false ∧ x.length + 2 ≤ sizeLine
    · rw [if_pos c] at q
      exact ⟨x, y, rfl, rfl, c.1, c.2, ok_newL hS (reps_strs' _) q⟩
    · rw [if_neg c] at q
      exact q.elim
  · exact (show False from q).elim
def gFind (x : Str) (ds : List D) : M D := match ds with
  | [.str y] => fun _ w => .ok (.int (Txt.find x y)) w
  | _ => M.no
theorem oks_find {C : Cfg} : OkS C (fun x xs H Q => ∃ a b, x = .str a ∧ xs = [.str b] ∧ Q (.int (Txt.find a b)) H) gFind := by
  intro W σ ρ H ro w x ds xs Q hS hds q
  unfold gFind at q
  split at q
  · rename_i y
    obtain ⟨v, vs, rfl, h1, h2⟩ := hds
    cases (show v = .str y from h1)
    cases (show vs = [] from h2)
    exact ⟨x, y, rfl, rfl, ok_int hS q⟩
  · exact (show False from q).elim
theorem pf_split {o e : Expr} {es : List Expr} {apos pos : Pos} (ho : PE X o (tE (cfg X) W fo)) (ha : PA X (e :: es) (tA (cfg X) W fs))
    (hbase : attributeBase o "split" X.env (eval o X.env) = eval o X.env := by rfl)
    (hfew : ((backTo pos (starEach (e :: es) X.env)).all (fun x => !x.1) && (backToKw pos (keywordEach [] X.env)).all (fun x => x.1.isSome)
      && decide ((e :: es).length + ([] : List Keyword).length + (if ([] : List Keyword).isEmpty then 0 else 1) < 30)) = true := by rfl)
    (hline : (apos.endLine == pos.line) = true := by rfl) (hs : starEach (e :: es) X.env = (false, eval e X.env) :: starEach es X.env := by rfl) (hplain : (backTo pos (starEach es X.env)).any (·.1) = false := by rfl) :
    PE X (.Call (.Attribute o "split" apos) (e :: es) [] pos) (tE (cfg X) W (cStr gSplit fo fs)) :=
  pe_imp (pe_bm PySem.F.plainAttrs_str PySem.F.slot_str_split PySem.F.type_str_split mt_split ho ha hbase hfew hline hs hplain) fun _ _ _ q => tE_str oks_split q
theorem pf_splitM {o e : Expr} {es : List Expr} {apos pos : Pos} (ho : PE X o (tE (cfg X) W fo)) (ha : PA X (e :: es) (tA (cfg X) W fs))
    (hbase : attributeBase o "split" X.env (eval o X.env) = eval o X.env := by rfl)
    (hfew : ((backTo pos (starEach (e :: es) X.env)).all (fun x => !x.1) && (backToKw pos (keywordEach [] X.env)).all (fun x => x.1.isSome)
      && decide ((e :: es).length + ([] : List Keyword).length + (if ([] : List Keyword).isEmpty then 0 else 1) < 30)) = true := by rfl)
    (hline : (apos.endLine == pos.line) = true := by rfl) (hs : starEach (e :: es) X.env = (false, eval e X.env) :: starEach es X.env := by rfl) (hplain : (backTo pos (starEach es X.env)).any (·.1) = false := by rfl) :
    PE X (.Call (.Attribute o "split" apos) (e :: es) [] pos) (tE (cfg X) W (cStr gSplitM fo fs)) :=
  pe_imp (pe_bm PySem.F.plainAttrs_str PySem.F.slot_str_split PySem.F.type_str_split mt_split ho ha hbase hfew hline hs hplain) fun _ _ _ q => tE_str oks_splitM q
theorem pf_find {o e : Expr} {es : List Expr} {apos pos : Pos} (ho : PE X o (tE (cfg X) W fo)) (ha : PA X (e :: es) (tA (cfg X) W fs))
    (hbase : attributeBase o "find" X.env (eval o X.env) = eval o X.env := by rfl)
    (hfew : ((backTo pos (starEach (e :: es) X.env)).all (fun x => !x.1) && (backToKw pos (keywordEach [] X.env)).all (fun x => x.1.isSome)
      && decide ((e :: es).length + ([] : List Keyword).length + (if ([] : List Keyword).isEmpty then 0 else 1) < 30)) = true := by rfl)
    (hline : (apos.endLine == pos.line) = true := by rfl) (hs : starEach (e :: es) X.env = (false, eval e X.env) :: starEach es X.env := by rfl) (hplain : (backTo pos (starEach es X.env)).any (·.1) = false := by rfl) :
    PE X (.Call (.Attribute o "find" apos) (e :: es) [] pos) (tE (cfg X) W (cStr gFind fo fs)) :=
  pe_imp (pe_bm PySem.F.plainAttrs_str PySem.F.slot_str_find PySem.F.type_str_find mt_find ho ha hbase hfew hline hs hplain) fun _ _ _ q => tE_str oks_find q
/-! f-strings -/
def cFmt (f : EF) : EF := fun env => M.bind (f env) fun d => match d with
  | .str y => fun _ w => if y.length ≤ sizeLine then .ok (.str y) w else .no
  | .int i => fun _ w => if i.natAbs.log2 < 1920 then .ok (.str (toString i)) w else .no
  | _ => M.no
theorem pf_fmt {e : Expr} {f : EF} {pos : Pos} (he : PE X e (tE (cfg X) W f)) : PE X (.FormattedValue e (-1) none pos) (tE (cfg X) W (cFmt f)) :=
  pe_imp (pe_fmt he) fun σ H Q ⟨ρ, env, ro, w, hS, hE, q⟩ => by
    refine tR_seq hS hE q fun d w1 v ρ1 H1 x1 s1 r1 q1 => ?_
    cases d with
    | str y =>
      cases (show v = .str y from r1)
      dsimp only at q1
      by_cases c : y.length ≤ sizeLine
      · rw [if_pos c] at q1
        exact .inl ⟨y, rfl, c, ok_str s1 q1⟩
      · rw [if_neg c] at q1
        exact q1.elim
    | int i =>
      cases (show v = .int i from r1)
      dsimp only at q1
      by_cases c : i.natAbs.log2 < 1920
      · rw [if_pos c] at q1
        exact .inr ⟨i, rfl, c, ok_str s1 q1⟩
      · rw [if_neg c] at q1
        exact q1.elim
    | _ => exact (show False from q1).elim
def jsF : List EF → Str → EF
  | [], acc => fun _ _ w => .ok (.str acc) w
  | f :: fs, acc => fun env => M.bind (f env) fun d => match d with
    | .str y => if (acc ++ y).length ≤ sizeLine then jsF fs (acc ++ y) env else M.no
    | _ => M.no
theorem js_run : ∀ (fs : List EF) (acc : Str) {σ : L2.St} {H : Hp} {Q : VK}, tE (cfg X) W (jsF fs acc) σ H Q → tJs (fs.map (tE (cfg X) W)) acc σ H fun out H1 => Q (.str out) H1
  | [], acc, σ, H, Q, ⟨ρ, env, ro, w, hS, hE, q⟩ => ok_str hS q
  | f :: fs, acc, σ, H, Q, ⟨ρ, env, ro, w, hS, hE, q⟩ => by
    refine tR_seq hS hE q fun d w1 v ρ1 H1 x1 s1 r1 q1 => ?_
    cases d with
    | str y =>
      cases (show v = .str y from r1)
      dsimp only at q1
      by_cases c : (acc ++ y).length ≤ sizeLine
      · rw [if_pos c] at q1
        exact ⟨y, rfl, c, js_run fs (acc ++ y) ⟨ρ1, env, ro, w1, s1, hE.ext x1, q1⟩⟩
      · rw [if_neg c] at q1
        exact (show False from q1).elim
    | _ => exact (show False from q1).elim
def cJs (fs : List EF) : EF := jsF fs Str.empty
inductive PJs (X : Cx) (W : WX) : List Expr → List EF → Prop where
  | nil : PJs X W [] []
  | cons {e : Expr} {f : EF} {es : List Expr} {fs : List EF} (h : PE X e (tE (cfg X) W f)) (r : PJs X W es fs) : PJs X W (e :: es) (f :: fs)
theorem PJs.pj {es : List Expr} {fs : List EF} (h : PJs X W es fs) : PJ X es (fs.map (tE (cfg X) W)) := by
  induction h with
  | nil => exact .nil
  | cons h r ih => exact .cons h ih
theorem pf_joined {v1 v2 : Expr} {rest : List Expr} {fs : List EF} {pos : Pos} (h : PJs X W (v1 :: v2 :: rest) fs) : PE X (.JoinedStr (v1 :: v2 :: rest) pos) (tE (cfg X) W (cJs fs)) :=
  pe_imp (pe_joined h.pj) fun σ H Q q => js_run fs Str.empty q
end
section
variable {env : Env} {ro w : List D} {x y : Str}
theorem strI_ok {i : Int} (h : i.natAbs.log2 < 1920) : gStrI (.int i) ro w = .ok (.str (toString i)) w := if_pos h
theorem split_ok (h1 : (y.length == 0) = false) (h2 : x.length + 2 ≤ sizeLine) : gSplit x [.str y] ro w = .ok (.lst ((Txt.split x y).map .str)) w := if_pos ⟨h1, h2⟩
theorem find_ok : gFind x [.str y] ro w = .ok (.int (Txt.find x y)) w := rfl
theorem x_fmt {f : EF} : cFmt f env ro w = (f env ro w).an fun d w1 => (match d with
  | .str y => fun _ w => if y.length ≤ sizeLine then .ok (.str y) w else .no
  | .int i => fun _ w => if i.natAbs.log2 < 1920 then .ok (.str (toString i)) w else .no
  | _ => M.no : M D) ro w1 := by
  show M.bind (f env) _ ro w = _
  rw [x_bind]
theorem js_nil {acc : Str} : jsF [] acc env ro w = .ok (.str acc) w := rfl
theorem js_cons {f : EF} {fs : List EF} {acc : Str} (h : f env ro w = .ok (.str y) w) (hz : (acc ++ y).length ≤ sizeLine) : jsF (f :: fs) acc env ro w = jsF fs (acc ++ y) env ro w := by
  show M.bind (f env) _ ro w = _
  rw [x_bind, h, an_ok]
  dsimp only
  rw [if_pos hz]
end
end Fx
/-! sorted(d) of a still dict whose keys are texts. -/
namespace Fx
open PySem PySem.Spec L2 PyProof.Rows PySem.W
def leT (a b : Str) : Bool := !ltCps b.cps.toList a.cps.toList
theorem leT_iff {a b : Str} : leT a b = true ↔ a.cps.toList ≤ b.cps.toList := by
  unfold leT
  rw [ltCps_eq, Bool.not_eq_true', decide_eq_false_iff_not]
  exact List.not_lt
theorem leT_trans {a b c : Str} (h1 : leT a b = true) (h2 : leT b c = true) : leT a c = true := leT_iff.mpr (List.le_trans (leT_iff.mp h1) (leT_iff.mp h2))
theorem leT_total (a b : Str) : (leT a b || leT b a) = true := by
  rw [Bool.or_eq_true, leT_iff, leT_iff]
  exact List.le_total _ _
theorem leT_anti {a b : Str} (h1 : leT a b = true) (h2 : leT b a = true) : a = b := by
  have e := List.le_antisymm (leT_iff.mp h1) (leT_iff.mp h2)
  obtain ⟨⟨a⟩⟩ := a
  obtain ⟨⟨b⟩⟩ := b
  have e' : a = b := e
  rw [e']
def srtT (l : List Str) : List Str := l.mergeSort leT
theorem srtT_perm (l : List Str) : (srtT l).Perm l := List.mergeSort_perm l leT
theorem srtT_sorted (l : List Str) : (srtT l).Pairwise fun a b => leT a b = true := List.pairwise_mergeSort (le := leT) (fun a b c h1 h2 => leT_trans h1 h2) leT_total l
theorem srtT_one {l m : List Str} (h : l.Pairwise fun a b => leT a b = true) (p : l.Perm m) : srtT m = l :=
  List.Perm.eq_of_pairwise (le := fun a b => leT a b = true) (fun a b _ _ h1 h2 => leT_anti h1 h2) (srtT_sorted m) h ((srtT_perm m).trans p.symm)
theorem rising_pw : ∀ (p : Str) (l : List Str), risingS p l = true → (p :: l).Pairwise fun a b => leT a b = true
  | p, [], _ => by simp
  | p, x :: r, h => by
    have h' : (!ltCps x.cps.toList p.cps.toList && risingS x r) = true := h
    rw [Bool.and_eq_true] at h'
    have ih := rising_pw x r h'.2
    have h1 : leT p x = true := h'.1
    refine List.pairwise_cons.mpr ⟨fun y hy => ?_, ih⟩
    rcases List.mem_cons.mp hy with rfl | hy
    · exact h1
    · exact leT_trans h1 ((List.pairwise_cons.mp ih).1 y hy)
theorem sorted_pw : ∀ (l : List Str), sortedS l = true → l.Pairwise fun a b => leT a b = true
  | [], _ => List.Pairwise.nil
  | x :: r, h => rising_pw x r h
def rSortTD : List V → Hp → VK → Prop := fun xs H Q => ∃ (a : Addr) (kvs : List (Key × V)) (ks : List Str), xs = [.ref a] ∧ Rd H a (.dK kvs) ∧ kvs.map (·.1) = ks.map Sum.inr ∧ ks.length < 64 ∧
    ∀ ys p, ys.Perm ks → sortedS ys = true → H p = none → Q (.ref p) (upd H p (.lst (ys.map V.str)))
theorem cr_sortTD {X : Cx} (hc : X.calm = true) : CallR X (.builtin "sorted") rSortTD := call_sortedD hc
def gSortTD (d : D) : M D := fun _ w => match d with
  | .dic ks _ => (match strsOf ks with
    | some ss => if ss.length < 64 then .ok (.lst ((srtT ss).map .str)) w else .no
    | none => .no)
  | _ => .no
theorem keys_inr : ∀ {ss : List Str} {kvs : List (Key × V)}, (ss.map D.str).map keyOf = kvs.map (fun p => some p.1) → kvs.map (·.1) = ss.map Sum.inr
  | [], [], _ => rfl
  | [], _ :: _, h => by cases h
  | _ :: _, [], h => by cases h
  | s :: ss, kv :: kvs, h => by
    rw [List.map_cons, List.map_cons, List.map_cons] at h
    have h1 := (List.cons.inj h).1
    have h2 := (List.cons.inj h).2
    rw [List.map_cons, List.map_cons, keys_inr h2]
    have e : some (Sum.inr s : Key) = some kv.1 := h1
    rw [← Option.some.inj e]
theorem ok_sortTD {C : Cfg} : Ok1 C rSortTD gSortTD := by
  intro W σ ρ H ro w d x Q hS hd q
  cases d with
  | dic ks xs =>
    unfold gSortTD at q
    dsimp only at q
    cases es : strsOf ks with
    | none => rw [es] at q; exact q.elim
    | some ss =>
      rw [es] at q
      dsimp only at q
      by_cases c : ss.length < 64
      · rw [if_pos c] at q
        have ek := strsOf_eq es
        subst ek
        obtain ⟨a, kvs, rfl, h, h1, h2⟩ := hd.dic
        refine ⟨a, kvs, ss, rfl, h, keys_inr h1, c, fun ys p hp hs hn => ?_⟩
        have e := srtT_one (sorted_pw ys hs) hp
        subst e
        exact ok_lst hS (reps_strs' _) q p hn
      · rw [if_neg c] at q
        exact q.elim
  | _ => exact (show False from q).elim
theorem sortTD_ok {ss : List Str} {xs : List D} {ro w : List D} (h : ss.length < 64) : gSortTD (.dic (ss.map .str) xs) ro w = .ok (.lst ((srtT ss).map .str)) w := by
  unfold gSortTD
  dsimp only
  rw [strsOf_map]
  dsimp only
  rw [if_pos h]
end Fx
/-! A dict that a group of statements has made stands still behind it, while the lists in it may still change. -/
namespace Fx
open PySem PySem.Spec L2
section
variable {C : Cfg} {ρ ρ2 ρ' : Zn} {H H' : Hp} {n : Nat}
theorem Still.sub (ho : ∀ a, ρ.Out a → ρ2.Out a) {a : Addr} {u : HO} (h : Still ρ H a u) : Still ρ2 H a u := ⟨ho a h.1, h.2⟩
mutual
/-- what is a key holds nothing that changes -/
theorem RepG.ktrunc (ho : ∀ a, ρ.Out a → ρ2.Out a) : ∀ (d : D) {v : V} {κ : NestedKey}, toKey d = some κ → Rep C ρ H d v → Rep C ρ2 H d v
  | .int _, v, κ, _, h => h
  | .str _, v, κ, _, h => h
  | .tup ds, v, κ, e, ⟨a, vs, e1, h1, r⟩ => by
    unfold toKey at e
    cases q : toKeys ds with
    | none => rw [q] at e; cases e
    | some ks => exact ⟨a, vs, e1, h1.imp (Still.sub ho) id, RepsG.ktrunc ho ds q r⟩
  | .non, v, κ, e, _ => by cases e
  | .bl _, v, κ, e, _ => by cases e
  | .fn _, v, κ, e, _ => by cases e
  | .rng _, v, κ, e, _ => by cases e
  | .ref _, v, κ, e, _ => by cases e
  | .lst _, v, κ, e, _ => by cases e
  | .dic _ _, v, κ, e, _ => by cases e
  | .dct _ _, v, κ, e, _ => by cases e
  | .ins _ _ _, v, κ, e, _ => by cases e
theorem RepsG.ktrunc (ho : ∀ a, ρ.Out a → ρ2.Out a) : ∀ (ds : List D) {vs : List V} {ks : List NestedKey}, toKeys ds = some ks → Reps C ρ H ds vs → Reps C ρ2 H ds vs
  | [], vs, ks, _, h => h
  | d :: ds, vs, ks, e, ⟨v, r, ev, h1, h2⟩ => by
    unfold toKeys at e
    cases q1 : toKey d with
    | none => simp only [q1] at e; cases e
    | some d1 =>
      cases q2 : toKeys ds with
      | none => simp only [q1, q2] at e; cases e
      | some ds2 => exact ⟨v, r, ev, RepG.ktrunc ho d q1 h1, RepsG.ktrunc ho ds q2 h2⟩
end
theorem DEntsG.trunc (ho : ∀ a, ρ.Out a → ρ2.Out a) {w : World} {es : List DictEntry} {ks : List D} {as : List Addr} {vs : List V} (en : DEnts w es ks as vs) : Reps C ρ H ks (as.map .ref) → Reps C ρ2 H ks (as.map .ref) := by
  induction en with
  | nil => exact id
  | cons h1 _ _ _ _ _ ih =>
    rintro ⟨v, r, ev, k1, k2⟩
    simp only [List.map_cons, List.cons.injEq] at ev
    obtain ⟨e1, e2⟩ := ev
    subst e1 e2
    exact ⟨_, _, rfl, RepG.ktrunc ho _ h1 k1, ih k2⟩
mutual
theorem RepG.tell (ho : ∀ a, ρ.Out a → ρ2.Out a) {φ : Nat → Option D} (hφ : ∀ m d v, φ m = some d → Rep C ρ H (.ref m) v → Rep C ρ2 H d v) : ∀ (d : D) {d' : D} {v : V}, D.tell φ d = some d' → Rep C ρ H d v → Rep C ρ2 H d' v
  | .non, d', v, e, h => by cases e; exact h
  | .bl b, d', v, e, h => by cases e; exact h
  | .int b, d', v, e, h => by cases e; exact h
  | .str b, d', v, e, h => by cases e; exact h
  | .fn b, d', v, e, h => by cases e; exact h
  | .rng b, d', v, e, h => by
    cases e
    obtain ⟨a, e1, h1⟩ := h
    exact ⟨a, e1, (Still.sub ho) h1⟩
  | .ref m, d', v, e, h => hφ m d' v e h
  | .tup ds, d', v, e, h => by
    unfold D.tell at e
    cases q : D.tells φ ds with
    | none => rw [q] at e; cases e
    | some ds' =>
      rw [q] at e
      cases e
      obtain ⟨a, vs, e1, h1, r⟩ := h
      exact ⟨a, vs, e1, h1.imp (Still.sub ho) id, RepsG.tell ho hφ ds q r⟩
  | .lst ds, d', v, e, h => by
    unfold D.tell at e
    cases q : D.tells φ ds with
    | none => rw [q] at e; cases e
    | some ds' =>
      rw [q] at e
      cases e
      obtain ⟨a, vs, e1, h1, r⟩ := h
      exact ⟨a, vs, e1, h1.imp (Still.sub ho) id, RepsG.tell ho hφ ds q r⟩
  | .dic ks ds, d', v, e, h => by
    unfold D.tell at e
    cases q : D.tells φ ds with
    | none => rw [q] at e; cases e
    | some ds' =>
      rw [q] at e
      cases e
      obtain ⟨a, kvs, e1, h1, k, r⟩ := h
      exact ⟨a, kvs, e1, (Still.sub ho) h1, k, RepsG.tell ho hφ ds q r⟩
  | .dct ks ds, d', v, e, h => by
    unfold D.tell at e
    cases q : D.tells φ ds with
    | none => rw [q] at e; cases e
    | some ds' =>
      rw [q] at e
      cases e
      obtain ⟨a, es, ep, as, vs, e1, h1, en, nd, rk, r⟩ := h
      exact ⟨a, es, ep, as, vs, e1, (Still.sub ho) h1, en, nd, DEntsG.trunc ho en rk, RepsG.tell ho hφ ds q r⟩
  | .ins c ns ds, d', v, e, h => by
    unfold D.tell at e
    cases q : D.tells φ ds with
    | none => rw [q] at e; cases e
    | some ds' =>
      rw [q] at e
      cases e
      obtain ⟨a, A, dx, fs, e1, m, nn, h1, k, r⟩ := h
      exact ⟨a, A, dx, fs, e1, m, ho _ nn, h1, k, RepsG.tell ho hφ ds q r⟩
theorem RepsG.tell (ho : ∀ a, ρ.Out a → ρ2.Out a) {φ : Nat → Option D} (hφ : ∀ m d v, φ m = some d → Rep C ρ H (.ref m) v → Rep C ρ2 H d v) : ∀ (ds : List D) {ds' : List D} {vs : List V}, D.tells φ ds = some ds' → Reps C ρ H ds vs → Reps C ρ2 H ds' vs
  | [], ds', vs, e, h => by cases e; exact h
  | d :: ds, ds', vs, e, ⟨v, r, ev, h1, h2⟩ => by
    unfold D.tells at e
    cases q1 : D.tell φ d with
    | none => simp only [q1] at e; cases e
    | some d1 =>
      cases q2 : D.tells φ ds with
      | none => simp only [q1, q2] at e; cases e
      | some ds2 =>
        simp only [q1, q2] at e
        cases e
        exact ⟨v, r, ev, RepG.tell ho hφ d q1 h1, RepsG.tell ho hφ ds q2 h2⟩
end
end
abbrev Zn.er (ρ : Zn) (N : Nat) : Zn := ⟨ρ.r.eraseIdx N, ρ.h⟩
section
variable {C : Cfg} {W : WX} {ρ ρ' : Zn} {H H' : Hp} {ro w w' w2 : List D} {σ : L2.St} {env : Env}
end
section
variable {X : Cx} {W : WX} {st : Stmt} {sts rest : List Stmt} {s t : SF}
end
section
variable {ro w : List D} {env : Env} {s : SF}
end
end Fx
/-! for k in d, d a still dict, where the body may raise. -/
namespace Fx
open PySem PySem.Spec L2 PyProof.Rows
def OS.calmX : OS → OS
  | .go fl env w => .go fl env w
  | .exn c [] [] env w => .exn c [] [] env w
  | _ => .no
def sForDX (t : Tg) (i : Nat) (body : SF) : SF := fun env ro w => (sFor t (cKeys i) body env ro w).calmX
section
variable {X : Cx} {W : WX} {t : Tg} {tg : Expr} {x : Str} {p pos : Pos}
theorem repx_un {C : Cfg} {ρ : Zn} {H H2 : Hp} {c : Str} {cls : Value} {dx : Option Addr} (h : RepX C ρ H c [] [] cls dx) : RepX C ρ H2 c [] [] cls dx := by
  obtain ⟨A, h1, h2, h3⟩ := h
  refine ⟨A, h1, h2, ?_⟩
  rcases h3 with h | ⟨_, _, _, n, _⟩
  · exact .inl h
  · exact absurd rfl n
def wUn (a : Addr) (kvs : List (Key × V)) (W : WX) : WX := fun cls d σ H => ∃ od, H a = some (.frz od (.dK kvs)) ∧ W cls d σ (upd H a (.dK kvs))
theorem takes_un {a : Addr} {kvs : List (Key × V)} (hn : ∀ o' u', X.H_0 a ≠ some (.frz o' u')) (tk : Takes X W) : Takes X (wUn a kvs W) := fun u s' ⟨aE, B, sI, pins, σ, H, cls, d, e, I, nb, up, sky, na, os, ag, od, hl, w⟩ =>
  tk u s' ⟨aE, B, sI, pins, σ, upd H a (.dK kvs), cls, d, e, I.unlock hl hn, nb, up, sky, by
    have ne : aE ≠ a := fun z => by
      rw [z, hl] at na
      cases na
    rw [upd_ne ne]
    exact na, os, ag, w⟩
theorem f_forDX {body : SF} {sts : List Stmt} (i : Nat) (hp : PassesOwn (model X.prog X.w) X.A X.env X.xe) (hc : X.calm = true) (hg : PG X tg (t.g X.K)) (tk : Takes X W) (hb : ∀ W', Takes X W' → PSs X sts (tS (cfg X) W' body))
    (hi : X.N[i]? = some x := by rfl) (hv : Vis X.env.scope x := by first | exact Or.inl rfl | exact Or.inr (Or.inl rfl) | exact Or.inr (Or.inr rfl)) (hd : (x == ("__debug__" : Str)) = false := by decide) (hcd : (x == ("__classdict__" : Str)) = false := by decide) (hs : ∀ z, foldedSetIterable (.Name x p) X.env z = pure z := by intro _; rfl) :
    PS X (.For tg (.Name x p) sts [] pos) (tS (cfg X) W (sForDX t i body)) := by
  have base : ∀ W', Takes X W' → PS X (.For tg (.Name x p) sts [] pos) (fun D σ H => Frz i σ H ∧ tS (cfg X) W' (sFor t (cKeys i) body) D σ H) := fun W' tk' =>
    ps_imp (ps_for hp hc (pi_keysF (W := W') i hi hv hd hcd) hg (hb W' tk') (hs := hs)) fun D σ H ⟨p, q⟩ => ⟨p, tS_for q⟩
  refine ⟨fun pins s σ H D I q => ?_⟩
  obtain ⟨ρ, env, ro, w, hS, hE, q⟩ := q
  replace q : AfterS (cfg X) W ρ H ro (sFor t (cKeys i) body env ro w).calmX D := q
  have ek : ∃ ds w', cKeys i env ro w = .ok ds w' := by
    cases e : cKeys i env ro w with
    | ok ds w' => exact ⟨ds, w', rfl⟩
    | exn c ns xs w' =>
      unfold cKeys at e
      split at e <;> cases e
    | no =>
      unfold sFor sLift at q
      rw [e] at q
      exact (show False from q).elim
  obtain ⟨ds, w', h3⟩ := ek
  obtain ⟨xs, ei, _⟩ := keys_there h3
  obtain ⟨v, g1, a, kvs, ev, st, k1, k2⟩ := hE.at' i _ ei
  subst ev
  cases ec : sFor t (cKeys i) body env ro w with
  | no => rw [ec] at q; exact (show False from q).elim
  | exn c ns ys env2 w2 =>
    rw [ec] at q
    cases ns with
    | cons _ _ => exact (show False from q).elim
    | nil =>
      cases ys with
      | cons _ _ => exact (show False from q).elim
      | nil =>
        rcases st.2 with h | ⟨o, h⟩
        · refine (ps_lock (base (wUn a kvs W) (takes_un (I.nofrz h trivial) tk))).run pins s σ H D I ⟨a, .dK kvs, h, trivial, fun od => ⟨⟨a, od, kvs, g1, upd_same⟩, ρ, env, ro, w, reps_lock h st.1 hS, hE.rde (rde_lock h), ?_⟩⟩
          rw [ec]
          intro cls dx σ' ρ' H' x s' e' r
          obtain ⟨l1, l2, l3⟩ := ext_locked h st.1 x
          exact ⟨od, l1, q cls dx σ' ρ' _ l3 (reps_unlock l1 l2 s') (e'.rde (rde_unlock l1)) (repx_un r)⟩
        · exact (base W tk).run pins s σ H D I ⟨⟨a, o, kvs, g1, h⟩, ρ, env, ro, w, hS, hE, by rw [ec]; exact q⟩
  | go fl env2 w2 =>
    rw [ec] at q
    rcases st.2 with h | ⟨o, h⟩
    · refine (ps_lock (base (wUn a kvs W) (takes_un (I.nofrz h trivial) tk))).run pins s σ H D I ⟨a, .dK kvs, h, trivial, fun od => ⟨⟨a, od, kvs, g1, upd_same⟩, ρ, env, ro, w, reps_lock h st.1 hS, hE.rde (rde_lock h), ?_⟩⟩
      rw [ec]
      cases fl with
      | rt d =>
        intro v ρ' H' x s' r
        obtain ⟨l1, l2, l3⟩ := ext_locked h st.1 x
        exact ⟨l1, q v ρ' _ l3 (reps_unlock l1 l2 s') (Rep.rde (rde_unlock l1) _ r)⟩
      | nx =>
        intro v ρ' H' x s' r
        obtain ⟨l1, l2, l3⟩ := ext_locked h st.1 x
        exact ⟨l1, q v ρ' _ l3 (reps_unlock l1 l2 s') (r.rde (rde_unlock l1))⟩
      | bk =>
        intro v ρ' H' x s' r
        obtain ⟨l1, l2, l3⟩ := ext_locked h st.1 x
        exact ⟨l1, q v ρ' _ l3 (reps_unlock l1 l2 s') (r.rde (rde_unlock l1))⟩
      | ct =>
        intro v ρ' H' x s' r
        obtain ⟨l1, l2, l3⟩ := ext_locked h st.1 x
        exact ⟨l1, q v ρ' _ l3 (reps_unlock l1 l2 s') (r.rde (rde_unlock l1))⟩
    · exact (base W tk).run pins s σ H D I ⟨⟨a, o, kvs, g1, h⟩, ρ, env, ro, w, hS, hE, by rw [ec]; exact q⟩
end
section
variable {t : Tg} {i : Nat} {env : Env} {ro w : List D} {body : SF}
theorem x_forDX : sForDX t i body env ro w = (sFor t (cKeys i) body env ro w).calmX := rfl
end
end Fx
/-! for x in xs, xs a list that may change: its items are read turn by turn (at most `n` turns). -/
namespace Fx
open PySem PySem.Spec L2 PyProof.Rows
def forM (t : Tg) (body : SF) (r : D) : Nat → Nat → SF
  | 0, _ => fun _ _ _ => .no
  | m + 1, i => fun env ro w => match see ro w r with
    | .lst ds => match ds[i]? with
      | none => .go .nx env w
      | some d => match t.put d env with
        | none => .no
        | some env1 => match body env1 ro w with
          | .go .nx env2 w2 => forM t body r m (i + 1) env2 ro w2
          | .go .ct env2 w2 => forM t body r m (i + 1) env2 ro w2
          | .go .bk env2 w2 => .go .nx env2 w2
          | .go (.rt d) env2 w2 => .go (.rt d) env2 w2
          | .exn c ns xs env2 w2 => .exn c ns xs env2 w2
          | .no => .no
    | _ => .no
def sForM (n : Nat) (t : Tg) (f : EF) (body : SF) : SF := sLift f fun r => forM t body r n 0
section
variable {X : Cx} {W : WX} {t : Tg} {tg e : Expr} {p pos : Pos} {f : EF} {body : SF}
theorem tS_forM {n : Nat} {D' : Ends} {σ : L2.St} {H : Hp} (q : tS (cfg X) W (sForM n t f body) D' σ H) : tFor (iList X.K (tE (cfg X) W f)) (t.g X.K) (tS (cfg X) W body) D' σ H := by
  obtain ⟨ρ, env, ro, w, hS, hE, q⟩ := q
  refine tS_seq hS hE q fun d w1 v ρ1 H1 x1 s1 e1 r1 q1 => ?_
  have key : ∀ (m i : Nat) (σ : L2.St) (H : Hp) (ρ2 : Zn) (env2 : Env) (w2 : List D), Ext ρ1 ρ2 H1 H → RepS (cfg X) ρ2 H (ro ++ w2) → AfterS (cfg X) W ρ2 H ro (forM t body d m i env2 ro w2) D' →
      ∃ m' ds vs a, m = m' + 1 ∧ v = .ref a ∧ see ro w2 d = .lst ds ∧ SqL X.K H a vs ∧ Reps (cfg X) ρ2 H ds vs := by
    intro m i σ H ρ2 env2 w2 x2 s2 q2
    cases m with
    | zero => exact (show False from q2).elim
    | succ m =>
      unfold forM at q2
      have sn := seen_of s2 (Rep.ext x2 d r1)
      cases hz : see ro w2 d with
      | lst ds =>
        rw [hz] at sn
        obtain ⟨a, vs, e, g, r⟩ := sn.lst
        exact ⟨m, ds, vs, a, rfl, e, rfl, g, r⟩
      | _ =>
        rw [hz] at q2
        exact (show False from q2).elim
  obtain ⟨_, ds0, vs0, a, _, ea, _, g0, _⟩ := key n 0 σ H1 ρ1 env w1 .refl s1 q1
  subst ea
  refine ⟨a, rfl, ⟨vs0, g0⟩, fun i m σ H => ∃ ρ2 env2 w2, Ext ρ1 ρ2 H1 H ∧ RepS (cfg X) ρ2 H (ro ++ w2) ∧ RepE (cfg X) ρ2 H env2 σ ∧ AfterS (cfg X) W ρ2 H ro (forM t body d m i env2 ro w2) D', ⟨n, ρ1, env, w1, .refl, s1, e1, q1⟩, fun i m σ H ⟨ρ2, env2, w2, x2, s2, e2, q2⟩ => ?_⟩
  obtain ⟨m', ds, vs, a', em, ea, hz, g, r⟩ := key m i σ H ρ2 env2 w2 x2 s2 q2
  cases ea
  subst em
  unfold forM at q2
  rw [hz] at q2
  cases hd : ds[i]? with
  | none =>
    simp only [hd] at q2
    exact .inl ⟨⟨vs, g, List.getElem?_eq_none_iff.mp (r.none hd)⟩, q2 σ ρ2 H .refl s2 e2⟩
  | some d' =>
    simp only [hd] at q2
    obtain ⟨y, h1, h2⟩ := r.get hd
    refine .inr ⟨⟨vs, y, g, h1⟩, fun σ' H' => ∃ ρ3 env3 w3, Ext ρ1 ρ3 H1 H' ∧ RepS (cfg X) ρ3 H' (ro ++ w3) ∧ RepE (cfg X) ρ3 H' env3 σ' ∧ AfterS (cfg X) W ρ3 H' ro (forM t body d m' (i + 1) env3 ro w3) D', fun σ' H' h => ⟨m', Nat.lt_succ_self _, h⟩, fun z H' hy => ?_⟩
    obtain ⟨eH, hy⟩ := hy
    subst eH
    have e3 := hy vs g
    rw [h1] at e3
    cases e3
    cases hput : t.put d' env2 with
    | none =>
      simp only [hput] at q2
      exact (show False from q2).elim
    | some env3 =>
      simp only [hput] at q2
      refine Tg.ok (C := cfg X) e2 h2 hput fun vs e3 => ⟨ρ2, env3, ro, w2, s2, e3, ?_⟩
      cases hbd : body env3 ro w2 with
      | no =>
        simp only [hbd] at q2
        exact q2
      | exn c ns xs env4 w4 =>
        simp only [hbd] at q2
        exact q2
      | go fl env4 w4 =>
        simp only [hbd] at q2
        cases fl with
        | nx => exact fun σ5 ρ5 H5 x5 s5 e5 => ⟨ρ5, env4, w4, x2.trans x5, s5, e5, AfterS.ext x5 q2⟩
        | ct => exact fun σ5 ρ5 H5 x5 s5 e5 => ⟨ρ5, env4, w4, x2.trans x5, s5, e5, AfterS.ext x5 q2⟩
        | bk => exact q2
        | rt d' => exact q2
theorem f_forM {n : Nat} {sts : List Stmt} (hp : PassesOwn (model X.prog X.w) X.A X.env X.xe) (hc : X.calm = true) (hi : PE X e (tE (cfg X) W f)) (hg : PG X tg (t.g X.K)) (hb : PSs X sts (tS (cfg X) W body)) (hs : ∀ x, foldedSetIterable e X.env x = pure x := by intro _; rfl) :
    PS X (.For tg e sts [] pos) (tS (cfg X) W (sForM n t f body)) := ps_imp (ps_for hp hc (pi_list hi) hg hb (hs := hs)) fun D σ H q => tS_forM q
end
section
variable {t : Tg} {f : EF} {body : SF} {env : Env} {ro w : List D} {n m i j : Nat} {r : D}
theorem x_forM : sForM n t f body env ro w = (f env ro w).st env fun r w1 => forM t body r n 0 env ro w1 := by
  unfold sForM sLift
  cases f env ro w <;> rfl
theorem forM_end {ds : List D} (h : see ro w r = .lst ds) (hi : ds.length ≤ i) : forM t body r (m + 1) i env ro w = .go .nx env w := by
  unfold forM
  rw [h]
  simp only [List.getElem?_eq_none_iff.mpr hi]
theorem forM_nm {ds : List D} {d : D} (h : see ro w r = .lst ds) (hi : ds[i]? = some d) : forM (.nm j) body r (m + 1) i env ro w = (body (env.set j (some d)) ro w).turn fun env2 w2 => forM (.nm j) body r m (i + 1) env2 ro w2 := by
  show (match see ro w r with | .lst ds => _ | _ => _ : OS) = _
  rw [h]
  simp only [hi, Tg.put]
  cases body (env.set j (some d)) ro w with
  | go fl env w => cases fl <;> rfl
  | _ => rfl
end
end Fx
/-! [a + "..", b, x.replace(y, z, 1)]: the first item gives out a token. A group of statements that may raise. -/
namespace Fx
open PySem PySem.Spec L2 PyProof.Rows PySem.W Builtin Builtin.Str
/-- the first y in x becomes z -/
def repl1 (x y z : Str) : Str :=
  if ((occurrences x y 0 x.length 1).isEmpty || (y.length == 0 && z.length == 0)) = true then x
  else glued z (partsBetween x (occurrences x y 0 x.length 1) y.length)
theorem gives_repl1 (x y z : Str) (t u v t2 : Tok)
    (hf : ((occurrences x y 0 x.length 1).isEmpty || (y.length == 0 && z.length == 0)) = false →
      (u == 0 || v == 0) = false ∧ (u == v) = false ∧ (y == z) = false ∧ tooLong (x.length + (occurrences x y 0 x.length 1).length * z.length) = false) :
    Gives («str.replace» ⟨[.str x t, .str y u, .str z v, .int 1 t2], []⟩) (if ((occurrences x y 0 x.length 1).isEmpty || (y.length == 0 && z.length == 0)) = true then .val (.str x t) else .str (glued z (partsBetween x (occurrences x y 0 x.length 1) y.length))) := by
  show Gives (do let limit ← countLimit "str.replace" (some (.int 1 t2)) (x.length + 1); _) _
  rw [countLimit_int "str.replace" 1 t2 (x.length + 1) (by decide)]
  show Gives (if ((occurrences x y 0 x.length 1).isEmpty || (y.length == 0 && z.length == 0)) = true then (do rule "str.replace.nothing"; ret (.str x t)) else
          (do let same ← isSame (.str y u) (.str z v)
              if same = true then (do rule "str.replace.old-is-new"; ret (.str x t)) else
              if tooLong (x.length + (occurrences x y 0 x.length 1).length * z.length) = true then unsupported "str.replace:memory" else
              retStr (glued z (partsBetween x (occurrences x y 0 x.length 1) y.length)))) _
  cases hc : ((occurrences x y 0 x.length 1).isEmpty || (y.length == 0 && z.length == 0))
  · obtain ⟨h0, huv, hyz, hl⟩ := hf hc
    rw [isSame_str_other y z u v h0 huv hyz, hl]
    exact .of_eq rfl
  · exact .rule (.of_eq rfl)
section
variable {prog : Program} {w : World} {A : Around} {E : Value → Shared → Prop} {s : Shared} {x y z : Str} {t u v t2 : Tok} {Q : Value → Shared → Prop}
theorem call_repl1 (hu : u ≠ 0) (hv : v ≠ 0) (huv : u ≠ v) (hyz : (y == z) = false) (hl : tooLong (x.length + (occurrences x y 0 x.length 1).length * z.length) = false) (hz : (repl1 x y z).length ≤ sizeLine)
    (hq : ∀ t' k, Q (.str (repl1 x y z) t') { s with toks := k }) : wpAny (model prog w) A (call (.builtin "str.replace") [.str x t, .str y u, .str z v, .int 1 t2]) Q E s := by
  refine call_gives F.slot_str_replace (typeIs_str _ _ _) F.entry_str_replace (F.args_str_replace_4 _ _ _ _)
    (gives_repl1 x y z t u v t2 fun _ => ⟨by simp [hu, hv], by simp [huv], hyz, hl⟩) ?_
  have hq' := hq
  unfold repl1 at hq' hz
  cases hc : ((occurrences x y 0 x.length 1).isEmpty || (y.length == 0 && z.length == 0))
  · rw [hc] at hq' hz
    simp only [Bool.false_eq_true, if_false] at hq' hz ⊢
    exact ⟨hz, hq' _ _⟩
  · rw [hc] at hq'
    simp only [if_true] at hq' ⊢
    exact hq' t s.toks
end
def PEk (X : Cx) (e : Expr) (t : TE) : Prop :=
  ∀ (pins : List (Addr × Obj)) (s : Shared) (σ : L2.St) (H : Hp) (Q : VK), Inv X pins σ H s → t σ H Q → wpAny (model X.prog X.w) X.A (eval e X.env) (fun v s1 => 1 ≤ s1.toks ∧ EP X pins σ Q v s1) X.xe s
section
variable {X : Cx} {W : WX} {a e f o : Expr} {es : List Expr} {fa fo : EF} {ta : TE} {t : TA} {pos p apos c0 c1 c2 : Pos}
theorem pek_add {op : Operator} {r : R2} {z : Str} {j : Nat} (ho : OpR X (binaryOp op) r) (ha : PE X a ta) : PEk X (.BinOp a op (.Constant (.str z) j p) pos) (tOp r ta (tC (.str z))) := by
  intro pins s σ H Q I h
  refine wpAny_BinOp (thn (ha.run pins s σ H _ I h) fun v s1 ⟨x, H1, I1, r1, q1⟩ => Calls.Constant_str ?_)
  refine wpAny_mono (PySem.wpAny_toks (ho pins { s1 with toks := s1.toks + 1 } σ H1 x (.str z) v _ Q (I1.tok _) r1 ⟨_, rfl⟩ q1)) (fun u s2 q => ⟨?_, q.2⟩) fun _ _ z => z.2
  have hk : s1.toks + 1 ≤ s2.toks := q.1
  omega
theorem pek_imp {t t' : TE} (h : PEk X e t) (i : ∀ σ H Q, t' σ H Q → t σ H Q) : PEk X e t' := fun pins s σ H Q I q => h pins s σ H Q I (i σ H Q q)
theorem pfk_add {op : Operator} {r : R2} {g : D → D → M D} {z : Str} {j : Nat} (ho : OpR X (binaryOp op) r) (hr : Ok2 (cfg X) r g) (ha : PE X a (tE (cfg X) W fa)) : PEk X (.BinOp a op (.Constant (.str z) j p) pos) (tE (cfg X) W (cBin g fa (cK (.str z)))) :=
  pek_imp (pek_add ho ha) fun σ H Q ⟨ρ, env, ro, w, hS, hE, q⟩ => by
    refine tR_seq hS hE q fun d w1 v ρ1 H1 x1 s1 r1 q1 => ?_
    exact hr W σ ρ1 H1 ro w1 (see ro w1 d) (.str z) v (.str z) Q s1 (seen_of s1 r1) (.inl rfl) q1
theorem pak_cons {te : TE} (ha : PEk X e te) (hr : PAT X es t) (hs : starEach (e :: es) X.env = (false, eval e X.env) :: starEach es X.env := by rfl) : PA X (e :: es) (tCons te t) := by
  refine ⟨fun pos pins s σ H Q I h => ?_⟩
  rw [hs]
  show wpAny _ _ (spliced ((false, eval e X.env) :: backTo pos (starEach es X.env))) _ _ s
  refine Calls.spliced_cons (thn (ha pins s σ H _ I h) fun v s1 q => ?_)
  obtain ⟨hk, x, H1, I1, r1, q1⟩ := q
  exact thn (hr pos pins s1 σ H1 _ hk I1 q1) fun us s2 ⟨xs, H2, I2, r2, q2⟩ => ⟨x :: xs, H2, I2, .cons r1 r2, q2⟩
theorem pat_imp {t t' : TA} (h : PAT X es t) (i : ∀ σ H Q, t' σ H Q → t σ H Q) : PAT X es t' := fun pos pins s σ H Q k I q => h pos pins s σ H Q k I (i σ H Q q)
theorem pet_imp {t t' : TE} (h : PET X e t) (i : ∀ σ H Q, t' σ H Q → t σ H Q) : PET X e t' := fun pins s σ H Q k I q => h pins s σ H Q k I (i σ H Q q)
theorem tA_cons {gs : List EF} {σ : L2.St} {H : Hp} {Q : List V → Hp → Prop} (q : tA (cfg X) W (cArgs (fa :: gs)) σ H Q) : tCons (tE (cfg X) W fa) (tA (cfg X) W (cArgs gs)) σ H Q := by
  obtain ⟨ρ, env, ro, w, hS, hE, q⟩ := q
  refine tR_seq (g := fun d => M.bind (cArgs gs env) fun ds => M.pure (d :: ds)) hS hE q fun d w1 v ρ1 H1 x1 s1 r1 q1 => ?_
  refine tR_seq s1 (hE.ext x1) q1 fun ds w2 vs ρ2 H2 x2 s2 r2 q2 => ?_
  exact q2 (v :: vs) ρ2 H2 .refl s2 ⟨v, vs, rfl, Rep.ext x2 d r1, r2⟩
theorem pfak_cons {gs : List EF} (ha : PEk X e (tE (cfg X) W fa)) (hr : PAT X es (tA (cfg X) W (cArgs gs))) (hs : starEach (e :: es) X.env = (false, eval e X.env) :: starEach es X.env := by rfl) : PA X (e :: es) (tA (cfg X) W (cArgs (fa :: gs))) :=
  pa_imp (pak_cons ha hr hs) fun _ _ _ q => tA_cons q
theorem pfat_cons {gs : List EF} (ha : PET X e (tE (cfg X) W fa)) (hr : PAT X es (tA (cfg X) W (cArgs gs))) (hs : starEach (e :: es) X.env = (false, eval e X.env) :: starEach es X.env := by rfl) : PAT X (e :: es) (tA (cfg X) W (cArgs (fa :: gs))) :=
  pat_imp (pat_cons ha hr hs) fun _ _ _ q => tA_cons q
theorem pfat_nil : PAT X [] (tA (cfg X) W (cArgs [])) := pat_imp pat_nil fun σ H Q ⟨ρ, env, ro, w, hS, hE, q⟩ => q [] ρ H .refl hS rfl
theorem pfet_of (h : PE X e (tE (cfg X) W fa)) : PET X e (tE (cfg X) W fa) := CwR.PET.of h
def cRepl1 (fo : EF) (y z : Str) : EF := fun env => M.bind (fo env) fun d => match d with
  | .str x => if tooLong (x.length + (occurrences x y 0 x.length 1).length * z.length) = false ∧ (repl1 x y z).length ≤ 16777216 then M.pure (.str (repl1 x y z)) else M.no
  | _ => M.no
def tRepl1 (to : TE) (y z : Str) : TE := fun σ H Q => to σ H fun v H1 => ∃ x, v = .str x ∧ tooLong (x.length + (occurrences x y 0 x.length 1).length * z.length) = false ∧ (repl1 x y z).length ≤ 16777216 ∧ Q (.str (repl1 x y z)) H1
theorem call_m3 {prog : Program} {w : World} {A : Around} {E : Value → Shared → Prop} {s : Shared} {env : PySem.Env} {o e₁ e₂ e₃ : Expr} {name : Str} {apos pos : Pos} {Q : Value → Shared → Prop}
    (hbase : attributeBase o name env (eval o env) = eval o env) (hs : starEach [e₁, e₂, e₃] env = [(false, eval e₁ env), (false, eval e₂ env), (false, eval e₃ env)]) (hline : (apos.endLine == pos.line) = true)
    (h : wpAny (model prog w) A (eval o env) (fun ov s₁ => MethodOnS prog w A E name ov pos [(false, eval e₁ env), (false, eval e₂ env), (false, eval e₃ env)] Q s₁) E s) :
    wpAny (model prog w) A (eval (.Call (.Attribute o name apos) [e₁, e₂, e₃] [] pos) env) Q E s := by
  refine wpAny_Call_method_lateS hbase (by rw [hs]; rfl) hline ?_
  rw [hs]; exact h
theorem pet_repl1 {to : TE} {y z : Str} {j k l : Nat} (ho : PE X o to) (hyz : (y == z) = false := by decide)
    (hst : starEach [.Constant (.str y) j c0, .Constant (.str z) k c1, .Constant (.int 1) l c2] X.env = [(false, eval (.Constant (.str y) j c0) X.env), (false, eval (.Constant (.str z) k c1) X.env), (false, eval (.Constant (.int 1) l c2) X.env)] := by rfl)
    (hbase : attributeBase o "replace" X.env (eval o X.env) = eval o X.env := by rfl) (hline : (apos.endLine == pos.line) = true := by rfl) :
    PET X (.Call (.Attribute o "replace" apos) [.Constant (.str y) j c0, .Constant (.str z) k c1, .Constant (.int 1) l c2] [] pos) (tRepl1 to y z) := by
  intro pins s σ H Q h0 I h
  refine call_m3 hbase hst hline (wpAny_mono (PySem.wpAny_toks (ho.run pins s σ H _ I h)) (fun v s1 q => ?_) fun _ _ z => z.2)
  obtain ⟨hk, v', H1, I1, r1, x, e1, hb, hb2, q⟩ := q
  subst e1
  obtain ⟨tx, e2⟩ := r1
  subst e2
  refine ⟨"str", _, PySem.F.plainAttrs_str, PySem.F.slot_str_replace, PySem.F.type_str_replace, typeIs_str _ _ _, (fun _ e => nomatch e), Calls.callWith_builtin rfl (Calls.evalArgs_plain (Calls.spliced_cons ?_))⟩
  refine Calls.Constant_str (Calls.spliced_cons (Calls.Constant_str (Calls.spliced_cons ?_)))
  refine wpAny_Constant_int ?_
  refine Calls.spliced_nil ?_
  exact call_repl1 (by show s1.toks ≠ 0; omega) (by show s1.toks + 1 ≠ 0; omega) (by show s1.toks ≠ s1.toks + 1; omega) hyz hb hb2 fun t' k => ⟨.str (repl1 x y z), H1, I1.tok k, ⟨t', rfl⟩, q⟩
theorem pfet_repl1 {y z : Str} {j k l : Nat} (ho : PE X o (tE (cfg X) W fo)) (hyz : (y == z) = false := by decide)
    (hst : starEach [.Constant (.str y) j c0, .Constant (.str z) k c1, .Constant (.int 1) l c2] X.env = [(false, eval (.Constant (.str y) j c0) X.env), (false, eval (.Constant (.str z) k c1) X.env), (false, eval (.Constant (.int 1) l c2) X.env)] := by rfl)
    (hbase : attributeBase o "replace" X.env (eval o X.env) = eval o X.env := by rfl) (hline : (apos.endLine == pos.line) = true := by rfl) :
    PET X (.Call (.Attribute o "replace" apos) [.Constant (.str y) j c0, .Constant (.str z) k c1, .Constant (.int 1) l c2] [] pos) (tE (cfg X) W (cRepl1 fo y z)) :=
  pet_imp (pet_repl1 ho hyz hst hbase hline) fun σ H Q ⟨ρ, env, ro, w, hS, hE, q⟩ => by
    refine tR_seq hS hE q fun d w1 v ρ1 H1 x1 s1 r1 q1 => ?_
    cases d with
    | str x =>
      cases (show v = .str x from r1)
      dsimp only at q1
      by_cases c : tooLong (x.length + (occurrences x y 0 x.length 1).length * z.length) = false ∧ (repl1 x y z).length ≤ 16777216
      · rw [if_pos c] at q1
        exact ⟨x, rfl, c.1, c.2, ok_str s1 q1⟩
      · rw [if_neg c] at q1
        exact (show False from q1).elim
    | _ => exact (show False from q1).elim
end
/-! ### a group that may raise -/
def sTellX (s : SF) : SF := fun env ro w => match s env ro w with
  | .exn c ns xs env' w' => .exn c ns xs env' w'
  | .go fl env' w' => sTell (fun _ _ _ => .go fl env' w') env ro w
  | .no => .no
section
variable {X : Cx} {W : WX} {st : Stmt} {sts rest : List Stmt} {s t : SF}
theorem after_tellX {C : Cfg} {ρ : Zn} {H : Hp} {ro w : List D} {env : Env} {D : Ends} (hS : RepS C ρ H (ro ++ w)) (q : AfterS C W ρ H ro (sTellX s env ro w) D) : AfterS C W ρ H ro (s env ro w) D := by
  unfold sTellX at q
  cases e : s env ro w with
  | no => rw [e] at q; exact q
  | exn c ns xs env' w' => rw [e] at q; exact q
  | go fl env' w' =>
    rw [e] at q
    exact after_tell (s := fun _ _ _ => .go fl env' w') hS q
theorem fss_tellX (h : PSs X sts (tS (cfg X) W s)) : PSs X sts (tS (cfg X) W (sTellX s)) := pss_imp h fun D σ H ⟨ρ, env, ro, w, hS, hE, q⟩ => ⟨ρ, env, ro, w, hS, hE, after_tellX hS q⟩
theorem fs_tellX3 {a b c : Stmt} {s1 s2 s3 : SF} (h1 : PS X a (tS (cfg X) W s1)) (h2 : PS X b (tS (cfg X) W s2)) (h3 : PS X c (tS (cfg X) W s3)) (h : PSs X rest (tS (cfg X) W t)) : PSs X (a :: b :: c :: rest) (tS (cfg X) W (sSeq (sTellX (sSeq s1 (sSeq s2 s3))) t)) :=
  fs_app (g := [a, b, c]) (fss_tellX (fs_cons h1 (fs_cons h2 (fs_one h3)))) h
end
section
variable {env : Env} {ro w : List D} {s : SF}
theorem x_tellX_go {env' : Env} {w' : List D} {o : OS} (h : s env ro w = .go .nx env' w') (h2 : sTell s env ro w = o) : sTellX s env ro w = o := by
  rw [← h2]
  unfold sTellX sTell
  simp only [h]
theorem x_tellX_exn {env' : Env} {w' xs : List D} {c : Str} {ns : List Str} (h : s env ro w = .exn c ns xs env' w') : sTellX s env ro w = .exn c ns xs env' w' := by
  unfold sTellX
  simp only [h]
theorem x_repl1 {fo : EF} {x y z : Str} (h : fo env ro w = .ok (.str x) w) (h1 : tooLong (x.length + (occurrences x y 0 x.length 1).length * z.length) = false) (h2 : (repl1 x y z).length ≤ 16777216) : cRepl1 fo y z env ro w = .ok (.str (repl1 x y z)) w := by
  show M.bind (fo env) _ ro w = _
  simp only [x_bind, h, an_ok]
  rw [if_pos ⟨h1, h2⟩]
  rfl
end
end Fx
namespace K
open PySem PySem.Spec L2 Fx
inductive Fn where
  | f_is_world
  | f_is_frame
  | f_is_name
  | f_number_of
  | f_write_model
  | f_read_model
  | f_law_cell
  | f_law_model_text
  | f_law_pairs
  | f_law_refused
  | f_law
  | f_Model_init
  | f_Model_frame
  | f_Model_true_worlds
  | f_Model

def topS (i : Nat) : Stmt := PySem.Challenge.pw_elsewhere_k84_faulty_texts_of_models.main.body.getD i (.Pass ⟨0, 0, 0, 0⟩)

def g_MAX_NAME : D := .int 12

def g_LETTERS : D := .str "abcdefghijklmnopqrstuvwxyz"

def g_MAX_DIGITS : D := .int 6

def csL : List Str := ["InvalidText", "InvalidModel"]
def usL : List Str := ["InvalidModel", "ElsewhereError", "InvalidText"]
def subL (c u : Str) : Bool := [(("InvalidText" : Str), ("ElsewhereError" : Str)), (("InvalidText" : Str), ("InvalidText" : Str)), (("InvalidModel" : Str), ("InvalidModel" : Str)), (("InvalidModel" : Str), ("ElsewhereError" : Str))].contains (c, u)

abbrev st_is_world : Stmt := topS 2
theorem sc_is_world : FnScope ["value", "worlds"] ["value", "worlds"] (defScope st_is_world) := ⟨rfl, rfl, rfl, by decide +kernel, rfl, by decide +kernel, by decide +kernel⟩
def b_is_world (cl : Fn → List D → M D) : SF :=
  sRet (cAnd (cIsi .int (cVar 0)) (cAnd (cNot (cIsi .bl (cVar 0))) (cChain gLe gLt (cK (.int 0)) (cVar 0) (cVar 1))))

abbrev st_is_frame : Stmt := topS 3
theorem sc_is_frame : FnScope ["frame", "worlds", "pairs", "pair"] ["frame"] (defScope st_is_frame) := ⟨rfl, rfl, rfl, by decide +kernel, rfl, by decide +kernel, by decide +kernel⟩
def b_is_frame (cl : Fn → List D → M D) : SF :=
  sSeq (sAsg (.tp [1, 2]) (cVar 0))
  (sSeq (sIf (cOrT (cTru (cIsi .bl (cVar 1))) (cTest (cBin gLt (cVar 1) (cK (.int 1))))) (sRet (cK (.bl false))) (sNil))
  (sSeq (sFor (.nm 3) (cSeq (cVar 2)) (sIf (cOrT (cTest (cBin gNe (cCall (one gLen) (cArgs [cVar 3])) (cK (.int 2)))) (cOrT (cNotT (cTru (cCall (fun ds => if ds.length = 2 then cl .f_is_world ds else M.no) (cArgs [cBin gIx (cVar 3) (cK (.int 0)), cVar 1])))) (cNotT (cTru (cCall (fun ds => if ds.length = 2 then cl .f_is_world ds else M.no) (cArgs [cBin gIx (cVar 3) (cK (.int 1)), cVar 1])))))) (sRet (cK (.bl false))) (sNil)))
  (sRet (cBin gEq (cCall (one gList) (cArgs [cVar 2])) (cCall (one gSortSet) (cArgs [cVar 2]))))))

abbrev st_is_name : Stmt := topS 13
theorem sc_is_name : FnScope ["text", "char"] ["text"] (defScope st_is_name) := ⟨rfl, rfl, rfl, by decide +kernel, rfl, by decide +kernel, by decide +kernel⟩
def b_is_name (cl : Fn → List D → M D) : SF :=
  sSeq (sIf (cOrT (cNotT (cTest (cChain gLe gLe (cK (.int 1)) (cCall (one gLen) (cArgs [cVar 0])) (cK g_MAX_NAME)))) (cTest (cBin gNotIn (cBin gIx (cVar 0) (cK (.int 0))) (cK g_LETTERS)))) (sRet (cK (.bl false))) (sNil))
  (sRet (cBin gEq (cComp (.nm 1) [1] (cSigns (cVar 0)) (cTest (cBin gNotIn (cVar 1) (cBin gAdd (cK g_LETTERS) (cK (.str "0123456789"))))) (cVar 1) kStill) (cLst (cArgs []))))

abbrev st_number_of : Stmt := topS 15
theorem sc_number_of : FnScope ["word", "most", "value", "char", "digit"] ["word", "most"] (defScope st_number_of) := ⟨rfl, rfl, rfl, by decide +kernel, rfl, by decide +kernel, by decide +kernel⟩
def b_number_of (cl : Fn → List D → M D) : SF :=
  sSeq (sIf (cOrT (cNotT (cTest (cChain gLe gLe (cK (.int 1)) (cCall (one gLen) (cArgs [cVar 0])) (cVar 1)))) (cAndT (cTest (cBin gGt (cCall (one gLen) (cArgs [cVar 0])) (cK (.int 1)))) (cTest (cBin gEq (cBin gIx (cVar 0) (cK (.int 0))) (cK (.str "0")))))) (sRet (cUn gNeg (cK (.int 1)))) (sNil))
  (sSeq (sSet 2 (cK (.int 0)))
  (sSeq (sFor (.nm 3) (cSigns (cVar 0)) (sSeq (sSet 4 (cStr gFind (cK (.str "0123456789")) (cArgs [cVar 3])))
  (sSeq (sIf (cTest (cBin gLt (cVar 4) (cK (.int 0)))) (sRet (cUn gNeg (cK (.int 1)))) (sNil))
  (sSet 2 (cBin gAdd (cBin gMul (cK (.int 10)) (cVar 2)) (cVar 4))))))
  (sRet (cVar 2))))

abbrev st_write_model : Stmt := topS 18
theorem sc_write_model : FnScope ["model", "text", "v", "w", "values", "name"] ["model"] (defScope st_write_model) := ⟨rfl, rfl, rfl, by decide +kernel, rfl, by decide +kernel, by decide +kernel⟩
def b_write_model (cl : Fn → List D → M D) : SF :=
  sSeq (sSet 1 (cJs [cK (.str "worlds "), cFmt (cBin gIx (cMeth "Model" "frame" (fun ds => if ds.length = 1 then cl .f_Model_frame ds else M.no) (cVar 0) (cArgs [])) (cK (.int 0))), cK (.str "\n")]))
  (sSeq (sFor (.tp [2, 3]) (cSeq (cBin gIx (cMeth "Model" "frame" (fun ds => if ds.length = 1 then cl .f_Model_frame ds else M.no) (cVar 0) (cArgs [])) (cK (.int 1)))) (sSet 1 (cBin gAdd (cVar 1) (cJs [cK (.str "sees "), cFmt (cVar 2), cK (.str " "), cFmt (cVar 3), cK (.str "\n")]))))
  (sSeq (sSet 4 (cMeth "Model" "true_worlds" (fun ds => if ds.length = 1 then cl .f_Model_true_worlds ds else M.no) (cVar 0) (cArgs [])))
  (sSeq (sFor (.nm 5) (cSeq (cCall (one gSortTD) (cArgs [cVar 4]))) (sSet 1 (cBin gAdd (cBin gAdd (cBin gAdd (cVar 1) (cK (.str "true "))) (cJoin (cK (.str " ")) (cBin gAdd (cLst (cArgs [cVar 5])) (cComp (.nm 3) [3] (cSeq (cDGet (cVar 4) (cVar 5))) (cYes) (cCall (one gStrI) (cArgs [cVar 3])) kStill)))) (cK (.str "\n")))))
  (sRet (cVar 1)))))

abbrev st_read_model : Stmt := topS 19
theorem sc_read_model : FnScope ["text", "lines", "worlds", "pairs", "values", "at", "line", "words", "known", "numbers", "model", "word"] ["text"] (defScope st_read_model) := ⟨rfl, rfl, rfl, by decide +kernel, rfl, by decide +kernel, by decide +kernel⟩
def b_read_model (cl : Fn → List D → M D) : SF :=
  sSeq (sSet 1 (cStr gSplit (cVar 0) (cArgs [cK (.str "\n")])))
  (sSeq (sSet 2 (cK (.int 0)))
  (sSeq (sTellX (sSeq (sSet 3 (cLstM (cArgs []))) (sSeq (sSet 4 (cDNew)) (sFor (.tp [5, 6]) (cEnum (cArgs [cSl (cVar 1) (cNoPart) (cPart (cUn gNeg (cK (.int 1))))])) (sSeq (sSet 7 (cStr gSplit (cVar 6) (cArgs [cK (.str " ")])))
  (sSeq (sSet 8 (cIf (cTest (cBin gEq (cBin gIx (cVar 7) (cK (.int 0))) (cK (.str "true")))) (cSl (cVar 7) (cPart (cK (.int 2))) (cNoPart)) (cSl (cVar 7) (cPart (cK (.int 1))) (cNoPart))))
  (sSeq (sSet 9 (cComp (.nm 11) [11] (cSeq (cVar 8)) (cYes) (cCall (fun ds => if ds.length = 2 then cl .f_number_of ds else M.no) (cArgs [cVar 11, cK g_MAX_DIGITS])) kStill))
  (sIf (cAndT (cTest (cBin gEq (cBin gIx (cVar 7) (cK (.int 0))) (cK (.str "worlds")))) (cAndT (cTest (cBin gEq (cVar 5) (cK (.int 0)))) (cTest (cBin gEq (cCall (one gLen) (cArgs [cVar 9])) (cK (.int 1)))))) (sSet 2 (cBin gIx (cVar 9) (cK (.int 0)))) (sIf (cAndT (cTest (cBin gEq (cBin gIx (cVar 7) (cK (.int 0))) (cK (.str "sees")))) (cAndT (cTest (cBin gGt (cVar 5) (cK (.int 0)))) (cTest (cBin gEq (cCall (one gLen) (cArgs [cVar 9])) (cK (.int 2)))))) (sExpr (cMl gAppend (cVar 3) (cArgs [cTup (cArgs [cBin gIx (cVar 9) (cK (.int 0)), cBin gIx (cVar 9) (cK (.int 1))])]))) (sIf (cAndT (cTest (cBin gEq (cBin gIx (cVar 7) (cK (.int 0))) (cK (.str "true")))) (cAndT (cTest (cBin gGt (cVar 5) (cK (.int 0)))) (cAndT (cTest (cBin gGt (cCall (one gLen) (cArgs [cVar 9])) (cK (.int 0)))) (cAndT (cTru (cCall (fun ds => if ds.length = 1 then cl .f_is_name ds else M.no) (cArgs [cBin gIx (cVar 7) (cK (.int 1))]))) (cTIn true (cBin gIx (cVar 7) (cK (.int 1))) (cVar 4)))))) (sDPutF (cVar 4) (cBin gIx (cVar 7) (cK (.int 1))) (cVar 9)) (sRaise "InvalidText")))))))))))
  (sSeq (sTryM [(subO csL subL "InvalidModel", sSet 10 (cK .non))] (sSet 10 (cCall (fun ds => if ds.length = 2 then cl .f_Model ds else M.no) (cArgs [cTup (cArgs [cVar 2, cCall (one gTuple) (cArgs [cVar 3])]), cVar 4]))))
  (sSeq (sIf (cOrT (cTest (cBin gIsN (cVar 10) (cK .non))) (cTest (cBin gNe (cCall (fun ds => if ds.length = 1 then cl .f_write_model ds else M.no) (cArgs [cVar 10])) (cVar 0)))) (sRaise "InvalidText") (sNil))
  (sRet (cVar 10))))))

abbrev st_law_cell : Stmt := topS 21
theorem sc_law_cell : FnScope ["_law_script", "_law_k"] ["_law_script", "_law_k"] (defScope st_law_cell) := ⟨rfl, rfl, rfl, by decide +kernel, rfl, by decide +kernel, by decide +kernel⟩
def b_law_cell (cl : Fn → List D → M D) : SF :=
  sSeq (sIf (cTest (cBin gLt (cVar 1) (cCall (one gLen) (cArgs [cVar 0])))) (sRet (cBin gIx (cVar 0) (cVar 1))) (sNil))
  (sRet (cK (.int 0)))

abbrev st_law_model_text : Stmt := topS 22
theorem sc_law_model_text : FnScope ["_law_worlds", "_law_pairs_here", "_law_values", "_law_text", "_law_pair", "_law_name", "_law_w"] ["_law_worlds", "_law_pairs_here", "_law_values"] (defScope st_law_model_text) := ⟨rfl, rfl, rfl, by decide +kernel, rfl, by decide +kernel, by decide +kernel⟩
def b_law_model_text (cl : Fn → List D → M D) : SF :=
  sSeq (sSet 3 (cBin gAdd (cBin gAdd (cK (.str "worlds ")) (cCall (one gStrI) (cArgs [cVar 0]))) (cK (.str "\n"))))
  (sSeq (sFor (.nm 4) (cSeq (cVar 1)) (sSet 3 (cBin gAdd (cBin gAdd (cBin gAdd (cBin gAdd (cBin gAdd (cVar 3) (cK (.str "sees "))) (cCall (one gStrI) (cArgs [cBin gIx (cVar 4) (cK (.int 0))]))) (cK (.str " "))) (cCall (one gStrI) (cArgs [cBin gIx (cVar 4) (cK (.int 1))]))) (cK (.str "\n")))))
  (sSeq (sFor (.nm 5) (cSeq (cCall (one gSortTD) (cArgs [cVar 2]))) (sIf (cTest (cBin gNe (cDGet (cVar 2) (cVar 5)) (cLst (cArgs [])))) (sSet 3 (cBin gAdd (cBin gAdd (cBin gAdd (cVar 3) (cK (.str "true "))) (cJoin (cK (.str " ")) (cBin gAdd (cLst (cArgs [cVar 5])) (cComp (.nm 6) [6] (cSeq (cCall (one gSortSet) (cArgs [cDGet (cVar 2) (cVar 5)]))) (cYes) (cCall (one gStrI) (cArgs [cVar 6])) kStill)))) (cK (.str "\n")))) (sNil)))
  (sRet (cVar 3))))

abbrev st_law_pairs : Stmt := topS 23
theorem sc_law_pairs : FnScope ["_law_seen", "_law_pairs_here", "_law_v", "_law_w"] ["_law_seen"] (defScope st_law_pairs) := ⟨rfl, rfl, rfl, by decide +kernel, rfl, by decide +kernel, by decide +kernel⟩
def b_law_pairs (cl : Fn → List D → M D) : SF :=
  sSeq (sSet 1 (cLstM (cArgs [])))
  (sSeq (sFor (.nm 2) (cRng1 (cArgs [cCall (one gLen) (cArgs [cVar 0])])) (sFor (.nm 3) (cRng1 (cArgs [cCall (one gLen) (cArgs [cVar 0])])) (sIf (cTru (cBin gIx (cBin gIx (cVar 0) (cVar 2)) (cVar 3))) (sExpr (cMl gAppend (cVar 1) (cArgs [cTup (cArgs [cVar 2, cVar 3])]))) (sNil))))
  (sRet (cVar 1)))

abbrev st_law_refused : Stmt := topS 24
theorem sc_law_refused : FnScope ["_law_text", "e"] ["_law_text"] (defScope st_law_refused) := ⟨rfl, rfl, rfl, by decide +kernel, rfl, by decide +kernel, by decide +kernel⟩
def b_law_refused (cl : Fn → List D → M D) : SF :=
  sSeq (sTryAE 1 (subO csL subL "ElsewhereError") (sExpr (cCall (fun ds => if ds.length = 1 then cl .f_read_model ds else M.no) (cArgs [cVar 0]))) (fun c => if c ∈ csL then (fun c => sRet (cK (.bl (subL c "InvalidText")))) c else fun _ _ _ => .no) (sNil))
  (sRet (cK (.bl false)))

abbrev st_law : Stmt := topS 25
theorem sc_law : FnScope ["_law_script", "_law_digit", "_law_cell_here", "_law_worlds", "_law_seen", "_law_pairs_here", "_law_text", "_law_lines", "_law_way", "_law_spot", "_law_other", "_law_kept", "_law_last", "_law_v", "_law_w"] ["_law_script"] (defScope st_law) := ⟨rfl, rfl, rfl, by decide +kernel, rfl, by decide +kernel, by decide +kernel⟩
def b_law (cl : Fn → List D → M D) : SF :=
  sSeq (sSet 1 (cCall (one gAbs) (cArgs [cCall (fun ds => if ds.length = 2 then cl .f_law_cell ds else M.no) (cArgs [cVar 0, cK (.int 0)])])))
  (sSeq (sSet 2 (cCall (one gAbs) (cArgs [cCall (fun ds => if ds.length = 2 then cl .f_law_cell ds else M.no) (cArgs [cVar 0, cK (.int 1)])])))
  (sSeq (sSet 3 (cBin gAdd (cK (.int 2)) (cBin gMod (cCall (one gInt) (cArgs [cVar 1])) (cK (.int 4)))))
  (sSeq (sSet 4 (cComp (.nm 13) [13] (cRng1 (cArgs [cVar 3])) (cYes) (cComp (.nm 14) [14] (cRng1 (cArgs [cVar 3])) (cYes) (cOr (cBin gEq (cBin gBand (cBin gShr (cVar 2) (cBin gAdd (cBin gMul (cK (.int 5)) (cVar 13)) (cVar 14))) (cK (.int 1))) (cK (.int 1))) (cBin (gInT false) (cTup (cArgs [cVar 13, cVar 14])) (cTup (cArgs [cTup (cArgs [cK (.int 0), cK (.int 0)]), cTup (cArgs [cK (.int 1), cK (.int 1)])])))) kStill) kStill))
  (sSeq (sSet 5 (cCall (fun ds => if ds.length = 1 then cl .f_law_pairs ds else M.no) (cArgs [cVar 4])))
  (sSeq (sSet 6 (cCall (fun ds => if ds.length = 3 then cl .f_law_model_text ds else M.no) (cArgs [cVar 3, cVar 5, cDisp [((cK (.str "p")), (cLst (cArgs [cK (.int 0), cK (.int 1)]))), ((cK (.str "q")), (cLst (cArgs [cBin gSub (cVar 3) (cK (.int 1))])))]])))
  (sSeq (sExpr (cCall (fun ds => if ds.length = 1 then cl .f_read_model ds else M.no) (cArgs [cVar 6])))
  (sSeq (sSet 7 (cStr gSplitM (cSl (cVar 6) (cNoPart) (cPart (cBin gSub (cCall (one gLen) (cArgs [cVar 6])) (cK (.int 1))))) (cArgs [cK (.str "\n")])))
  (sSeq (sSet 8 (cBin gMod (cBin gDiv (cVar 1) (cK (.int 4))) (cK (.int 9))))
  (sSeq (sSet 9 (cBin gMod (cBin gDiv (cVar 1) (cK (.int 36))) (cCall (one gLen) (cArgs [cVar 7]))))
  (sSeq (sIf (cTest (cBin gEq (cVar 8) (cK (.int 0)))) (sRet (cCall (fun ds => if ds.length = 1 then cl .f_law_refused ds else M.no) (cArgs [cSl (cVar 6) (cNoPart) (cPart (cBin gSub (cCall (one gLen) (cArgs [cVar 6])) (cK (.int 1))))]))) (sNil))
  (sSeq (sIf (cTest (cBin gEq (cVar 8) (cK (.int 1)))) (sRet (cCall (fun ds => if ds.length = 1 then cl .f_law_refused ds else M.no) (cArgs [cBin gAdd (cJoin (cK (.str "\n")) (cSl (cVar 7) (cPart (cK (.int 1))) (cNoPart))) (cK (.str "\n"))]))) (sNil))
  (sSeq (sIf (cTest (cBin gEq (cVar 8) (cK (.int 2)))) (sExpr (cMl gInsert (cVar 7) (cArgs [cVar 9, cBin gIx (cVar 7) (cVar 9)]))) (sNil))
  (sSeq (sIf (cTest (cBin gEq (cVar 8) (cK (.int 3)))) (sSeq (sSet 10 (cBin gMod (cCall (one gInt) (cArgs [cBin gAdd (cVar 9) (cK (.int 1))])) (cCall (one gLen) (cArgs [cVar 7]))))
  (sSeq (sSet 11 (cBin gIx (cVar 7) (cVar 9)))
  (sSeq (sPut (cVar 7) (cVar 9) (cBin gIx (cVar 7) (cVar 10)))
  (sPut (cVar 7) (cVar 10) (cVar 11))))) (sNil))
  (sSeq (sIf (cTest (cBin gEq (cVar 8) (cK (.int 4)))) (sPut (cVar 7) (cVar 9) (cBin gIx (cLst (cArgs [cBin gAdd (cBin gIx (cVar 7) (cVar 9)) (cK (.str " ")), cBin gAdd (cK (.str " ")) (cBin gIx (cVar 7) (cVar 9)), cRepl1 (cBin gIx (cVar 7) (cVar 9)) " " "  "])) (cBin gMod (cCall (one gInt) (cArgs [cVar 2])) (cK (.int 3))))) (sNil))
  (sSeq (sIf (cTest (cBin gEq (cVar 8) (cK (.int 5)))) (sPut (cVar 7) (cK (.int 1)) (cBin gIx (cLst (cArgs [cK (.str "sees 0"), cK (.str "sees 0 0 0"), cK (.str "see 0 0"), cK (.str "sees 00 0"), cK (.str "sees 0 -1"), cBin gAdd (cK (.str "sees 0 ")) (cCall (one gStrI) (cArgs [cVar 3])), cK (.str "sees 0 1234567"), cK (.str "sees a 0"), cK (.str "")])) (cBin gMod (cCall (one gInt) (cArgs [cVar 2])) (cK (.int 9))))) (sNil))
  (sSeq (sIf (cTest (cBin gEq (cVar 8) (cK (.int 6)))) (sSeq (sSet 12 (cBin gSub (cCall (one gLen) (cArgs [cVar 7])) (cK (.int 1))))
  (sPut (cVar 7) (cVar 12) (cBin gIx (cLst (cArgs [cK (.str "true q"), cK (.str "true Q 0"), cK (.str "true 1q 0"), cK (.str "true q 1 0"), cK (.str "true q 0 0"), cK (.str "true abcdefghijklm 0"), cK (.str "true"), cK (.str "true  0"), cK (.str "true p 0")])) (cBin gMod (cCall (one gInt) (cArgs [cVar 2])) (cK (.int 9)))))) (sNil))
  (sSeq (sIf (cTest (cBin gEq (cVar 8) (cK (.int 7)))) (sPut (cVar 7) (cK (.int 0)) (cBin gIx (cLst (cArgs [cK (.str "worlds 0"), cK (.str "worlds"), cK (.str "worlds 2 2"), cK (.str "worlds 02"), cK (.str "world 2"), cK (.str "worlds 1"), cK (.str "worlds -2"), cK (.str "worlds two")])) (cBin gMod (cCall (one gInt) (cArgs [cVar 2])) (cK (.int 8))))) (sNil))
  (sSeq (sIf (cTest (cBin gEq (cVar 8) (cK (.int 8)))) (sExpr (cMl gAppend (cVar 7) (cArgs [cBin gIx (cLst (cArgs [cK (.str ""), cK (.str "sees 1 1"), cK (.str "true p 1"), cK (.str "worlds 2"), cK (.str "true a 0"), cK (.str "# end")])) (cBin gMod (cCall (one gInt) (cArgs [cVar 2])) (cK (.int 6)))]))) (sNil))
  (sRet (cCall (fun ds => if ds.length = 1 then cl .f_law_refused ds else M.no) (cArgs [cBin gAdd (cJoin (cK (.str "\n")) (cVar 7)) (cK (.str "\n"))])))))))))))))))))))))

abbrev st_Model_init : Stmt := inClass (topS 9) 0
theorem sc_Model_init : FnScope ["self", "frame", "values", "v", "w", "name", "_"] ["self", "frame", "values"] (defScope st_Model_init) := ⟨rfl, rfl, rfl, by decide +kernel, rfl, by decide +kernel, by decide +kernel⟩
def b_Model_init (cl : Fn → List D → M D) : SF :=
  sSeq (sIf (cNotT (cTru (cCall (fun ds => if ds.length = 1 then cl .f_is_frame ds else M.no) (cArgs [cVar 1])))) (sRaise "InvalidModel") (sNil))
  (sSeq (sSetF "Model" "_frame" (cVar 0) (cTup (cArgs [cBin gIx (cVar 1) (cK (.int 0)), cCall (one gTuple) (cArgs [cBin gIx (cVar 1) (cK (.int 1))])])))
  (sSeq (sSetF "Model" "_seen" (cVar 0) (cComp (.nm 6) [6] (cRng1 (cArgs [cBin gIx (cVar 1) (cK (.int 0))])) (cYes) (cLstM (cArgs [])) kMut))
  (sSeq (sFor (.tp [3, 4]) (cSeq (cBin gIx (cVar 1) (cK (.int 1)))) (sExpr (cMl gAppend (cBin gIx (cFld "Model" "_seen" (cVar 0)) (cVar 3)) (cArgs [cVar 4]))))
  (sSeq (sSetF "Model" "_values" (cVar 0) (cDNew))
  (sForDX (.nm 5) 2 (sSeq (sForM 100 (.nm 4) (cDGet (cVar 2) (cVar 5)) (sIf (cNotT (cTru (cCall (fun ds => if ds.length = 2 then cl .f_is_world ds else M.no) (cArgs [cVar 4, cBin gIx (cVar 1) (cK (.int 0))])))) (sRaise "InvalidModel") (sNil)))
  (sIf (cTest (cBin gGt (cCall (one gLen) (cArgs [cDGet (cVar 2) (cVar 5)])) (cK (.int 0)))) (sDPutF (cFld "Model" "_values" (cVar 0)) (cVar 5) (cCall (one gSortSet) (cArgs [cDGet (cVar 2) (cVar 5)]))) (sNil))))))))

abbrev st_Model_frame : Stmt := inClass (topS 9) 1
theorem sc_Model_frame : FnScope ["self"] ["self"] (defScope st_Model_frame) := ⟨rfl, rfl, rfl, by decide +kernel, rfl, by decide +kernel, by decide +kernel⟩
def b_Model_frame (cl : Fn → List D → M D) : SF :=
  sRet (cFld "Model" "_frame" (cVar 0))

abbrev st_Model_true_worlds : Stmt := inClass (topS 9) 2
theorem sc_Model_true_worlds : FnScope ["self", "name"] ["self"] (defScope st_Model_true_worlds) := ⟨rfl, rfl, rfl, by decide +kernel, rfl, by decide +kernel, by decide +kernel⟩
def b_Model_true_worlds (cl : Fn → List D → M D) : SF :=
  sRet (cDcA (.nm 1) [1] "Model" 0 "_values" (cVar 1) (cCall (one gList) (cArgs [cDGet (cFld "Model" "_values" (cVar 0)) (cVar 1)])))

/-- one turn of the table -/
def body (cl : Fn → List D → M D) : Fn → List D → M D
  | .f_is_world => runDef 2 2 (b_is_world cl)
  | .f_is_frame => runDef 1 4 (b_is_frame cl)
  | .f_is_name => runDef 1 2 (b_is_name cl)
  | .f_number_of => pureD (runDef 2 5 (b_number_of cl))
  | .f_write_model => pureD (runDef 1 6 (b_write_model cl))
  | .f_read_model => pureD (runDef 1 12 (b_read_model cl))
  | .f_law_cell => runDef 2 2 (b_law_cell cl)
  | .f_law_model_text => pureD (runDef 3 7 (b_law_model_text cl))
  | .f_law_pairs => pureD (runDef 1 4 (b_law_pairs cl))
  | .f_law_refused => pureD (runDef 1 2 (b_law_refused cl))
  | .f_law => runDef 1 15 (b_law cl)
  | .f_Model_init => runDef 3 7 (b_Model_init cl)
  | .f_Model_frame => runDef 1 1 (b_Model_frame cl)
  | .f_Model_true_worlds => pureD (runDef 1 2 (b_Model_true_worlds cl))
  | .f_Model => pureD (mkD "Model" (cl .f_Model_init))

def ev : Nat → Fn → List D → M D
  | 0 => fun _ _ => M.no
  | n + 1 => body (ev n)

theorem q_is_name {n : Nat} : ev (n + 1) .f_is_name = runDef 1 2 (b_is_name (ev n)) := rfl
theorem q_law_cell {n : Nat} : ev (n + 1) .f_law_cell = runDef 2 2 (b_law_cell (ev n)) := rfl
theorem q_law {n : Nat} : ev (n + 1) .f_law = runDef 1 15 (b_law (ev n)) := rfl
theorem q_Model_init {n : Nat} : ev (n + 1) .f_Model_init = runDef 3 7 (b_Model_init (ev n)) := rfl
theorem q_Model {n : Nat} : ev (n + 1) .f_Model = pureD (mkD "Model" ((ev n) .f_Model_init)) := rfl
end K
namespace K
open PySem PySem.Spec L2 Fx
structure Bt (K : PySem.W.Frag) (mg : Str → Option Value) (w : World) : Prop where
  m_abs : mg "abs" = none
  m_bool : mg "bool" = none
  m_enumerate : mg "enumerate" = none
  m_int : mg "int" = none
  m_isinstance : mg "isinstance" = none
  m_len : mg "len" = none
  m_list : mg "list" = none
  m_range : mg "range" = none
  m_set : mg "set" = none
  m_sorted : mg "sorted" = none
  m_str : mg "str" = none
  m_tuple : mg "tuple" = none
  g_LETTERS : GK ⟨K, mg, w⟩ "LETTERS" g_LETTERS
  g_MAX_DIGITS : GK ⟨K, mg, w⟩ "MAX_DIGITS" g_MAX_DIGITS
  g_MAX_NAME : GK ⟨K, mg, w⟩ "MAX_NAME" g_MAX_NAME
  xt : ExT K mg csL usL subL
  k_Model : ClX K mg "Model" ["_frame", "_seen", "_values"]

structure Cs (P : Program) (w : World) (K : PySem.W.Frag) (mg : Str → Option Value) (base : Heap) (n : Nat) (cl : Fn → List D → M D) : Prop where
  c_f_is_world : CallOk P w K mg base n "is_world" (cl .f_is_world) 2
  c_f_is_frame : CallOk P w K mg base n "is_frame" (cl .f_is_frame) 1
  c_f_is_name : CallOk P w K mg base n "is_name" (cl .f_is_name) 1
  c_f_number_of : CallOk P w K mg base n "number_of" (cl .f_number_of) 2
  c_f_write_model : CallOk P w K mg base n "write_model" (cl .f_write_model) 1
  c_f_read_model : CallOk P w K mg base n "read_model" (cl .f_read_model) 1
  c_f_law_cell : CallOk P w K mg base n "_law_cell" (cl .f_law_cell) 2
  c_f_law_model_text : CallOk P w K mg base n "_law_model_text" (cl .f_law_model_text) 3
  c_f_law_pairs : CallOk P w K mg base n "_law_pairs" (cl .f_law_pairs) 1
  c_f_law_refused : CallOk P w K mg base n "_law_refused" (cl .f_law_refused) 1
  c_f_law : CallOk P w K mg base n "law" (cl .f_law) 1
  c_f_Model_init : InitOk P w K mg base n "Model" (cl .f_Model_init) 2
  c_f_Model_frame : MethOk P w K mg base n "Model" "frame" (cl .f_Model_frame) 1
  c_f_Model_true_worlds : MethOk P w K mg base n "Model" "true_worlds" (cl .f_Model_true_worlds) 1
  c_f_Model : MakeOk P w K mg base n "Model" (cl .f_Model) 2

section
variable {P : Program} {w : World} {K : PySem.W.Frag} {mg : Str → Option Value} {base : Heap} {n : Nat} {cl : Fn → List D → M D}

theorem ok_is_world (B : Bt K mg w) (cs : Cs P w K mg base n cl) {a : Addr} {fd : FuncData} (F : Fun K "is_world" "is_world" st_is_world a fd) : FnOk P w K mg base (L2.CX P w) (n + 1) a fd ["value", "worlds"] (spF ⟨K, mg, w⟩ (runDef 2 2 (b_is_world cl)) 2) :=
  def_ok (ps := ["value", "worlds"]) F sc_is_world fun cdv A outer s H E hr => by
    unfold b_is_world
    exact (fs_one (f_ret (pf_and (pf_isi .int rfl B.m_isinstance rfl B.m_int (by decide +kernel) (pf_var 0)) (pf_and (pf_not (pf_isi .bl rfl B.m_isinstance rfl B.m_bool (by decide +kernel) (pf_var 0))) (pf_one (pf_chain op_le ok2_le op_lt ok2_lt pf_int (pf_var 0) (pf_var 1)))))))

theorem ok_is_frame (B : Bt K mg w) (cs : Cs P w K mg base n cl) {a : Addr} {fd : FuncData} (F : Fun K "is_frame" "is_frame" st_is_frame a fd) : FnOk P w K mg base (L2.CX P w) (n + 1) a fd ["frame"] (spF ⟨K, mg, w⟩ (runDef 1 4 (b_is_frame cl)) 1) :=
  def_ok (ps := ["frame"]) F sc_is_frame fun cdv A outer s H E hr => by
    unfold b_is_frame
    exact (fs_cons (f_asg (t := (.tp [1, 2])) (pg_t rfl (pgn_cons (pg_n 1 sc_is_frame.nd) (pgn_cons (pg_n 2 sc_is_frame.nd) pgn_nil))) (pf_var 0))
    (fs_cons (f_if (PW.pt (pw_orF (pt_tru (pf_isi .bl rfl B.m_isinstance rfl B.m_bool (by decide +kernel) (pf_var 1))) (pw_or1F (pt_cmpF op_lt ok2_lt (pf_var 1) pf_int (nomark _))))) (fs_one (f_ret pf_bl)) fs_nil)
    (fs_cons (f_for (t := (.nm 3)) (passes_of rfl) rfl (pfi_seq (pf_var 2)) (pg_n 3 sc_is_frame.nd) (fs_one (f_if (PW.pt (pw_orF (pt_cmpF (op_neD hr.units) ok2_ne (pf_callB cf_len (okL_one ok_len) rfl B.m_len PySem.boot_len (pfa_cons (pf_var 3) pfa_nil)) pf_int (nomark _)) (pw_orF (pt_notF (pt_tru (pf_call cs.c_f_is_world hr (pass_of (takes_of rfl rfl rfl rfl)) rfl (pfa_cons (pf_ix (pf_var 3) pf_int (fun _ _ => rfl)) (pfa_cons (pf_var 1) pfa_nil))))) (pw_or1F (pt_notF (pt_tru (pf_call cs.c_f_is_world hr (pass_of (takes_of rfl rfl rfl rfl)) rfl (pfa_cons (pf_ix (pf_var 3) pf_int (fun _ _ => rfl)) (pfa_cons (pf_var 1) pfa_nil))))))))) (fs_one (f_ret pf_bl)) fs_nil)))
    (fs_one (f_ret (pf_cmp (op_eqD hr.units) ok2_eq (pf_callTy cf_list (okL_one ok_list) rfl B.m_list (by decide +kernel) (pfa_cons (pf_var 2) pfa_nil)) (pf_sortSet rfl (hu70 hr) rfl B.m_sorted rfl B.m_set (pfa_cons (pf_var 2) pfa_nil)) (nomark _)))))))

theorem ok_is_name (B : Bt K mg w) (cs : Cs P w K mg base n cl) {a : Addr} {fd : FuncData} (F : Fun K "is_name" "is_name" st_is_name a fd) : FnOk P w K mg base (L2.CX P w) (n + 1) a fd ["text"] (spF ⟨K, mg, w⟩ (runDef 1 2 (b_is_name cl)) 1) :=
  def_ok (ps := ["text"]) F sc_is_name fun cdv A outer s H E hr => by
    unfold b_is_name
    exact (fs_cons (f_if (PW.pt (pw_orF (pt_notF (pt_chainF op_le ok2_le op_le ok2_le pf_int (pf_callB cf_len (okL_one ok_len) rfl B.m_len PySem.boot_len (pfa_cons (pf_var 0) pfa_nil)) (pf_glob rfl B.g_MAX_NAME))) (pw_or1F (pt_cmpF (opf_notIn (hu65 hr)) ok2_notIn (pf_ix (pf_var 0) pf_int (fun _ _ => rfl)) (pf_glob rfl B.g_LETTERS) (by rfl))))) (fs_one (f_ret pf_bl)) fs_nil)
    (fs_one (f_ret (pf_cmp (op_eqD hr.units) ok2_eq (pf_lc (own := [("char", 1)]) (t := (.nm 1)) kStill_ok (by decide) rfl sc_is_name.nd (pfi_str (pf_var 0)) (blkOk_by (N := ["text", "char"]) (sc := defScope st_is_name) (by decide +kernel)) (fun _ _ _ _ _ => (pg_n 1 sc_is_name.nd)) (fun _ _ _ _ _ => (fts_one (pt_cmpF (opf_notIn (hu65 hr)) ok2_notIn (pf_var 1) (pf_op opf_add ok2_add (pf_glob rfl B.g_LETTERS) pf_str) (by rfl)))) (fun _ _ _ _ _ => (pf_var 1))) (pf_lst pfa_nil) (nomark _)))))

theorem ok_number_of (B : Bt K mg w) (cs : Cs P w K mg base n cl) {a : Addr} {fd : FuncData} (F : Fun K "number_of" "number_of" st_number_of a fd) : FnOk P w K mg base (L2.CX P w) (n + 1) a fd ["word", "most"] (spF ⟨K, mg, w⟩ (runDef 2 5 (b_number_of cl)) 2) :=
  def_ok (ps := ["word", "most"]) F sc_number_of fun cdv A outer s H E hr => by
    unfold b_number_of
    exact (fs_cons (f_if (PW.pt (pw_orF (pt_notF (pt_chainF op_le ok2_le op_le ok2_le pf_int (pf_callB cf_len (okL_one ok_len) rfl B.m_len PySem.boot_len (pfa_cons (pf_var 0) pfa_nil)) (pf_var 1))) (pw_or1F (PW.pt (pw_andF (pt_cmpF op_gt ok2_gt (pf_callB cf_len (okL_one ok_len) rfl B.m_len PySem.boot_len (pfa_cons (pf_var 0) pfa_nil)) pf_int (nomark _)) (pw_and1F (pt_cmpF (op_eqD hr.units) ok2_eq (pf_ix (pf_var 0) pf_int (fun _ _ => rfl)) pf_str (nomark _)))))))) (fs_one (f_ret (pf_neg pf_int))) fs_nil)
    (fs_cons (f_set 2 sc_number_of.nd pf_int)
    (fs_cons (f_for (t := (.nm 3)) (passes_of rfl) rfl (pfi_str (pf_var 0)) (pg_n 3 sc_number_of.nd) (fs_cons (f_set 4 sc_number_of.nd (pf_find pf_str (pfa_cons (pf_var 3) pfa_nil)))
    (fs_cons (f_if (pt_cmpF op_lt ok2_lt (pf_var 4) pf_int (nomark _)) (fs_one (f_ret (pf_neg pf_int))) fs_nil)
    (fs_one (f_set 2 sc_number_of.nd (pf_op opf_add ok2_add (pf_op op_mul ok2_mul pf_int (pf_var 2)) (pf_var 4)))))))
    (fs_one (f_ret (pf_var 2))))))

theorem ok_write_model (B : Bt K mg w) (cs : Cs P w K mg base n cl) {a : Addr} {fd : FuncData} (F : Fun K "write_model" "write_model" st_write_model a fd) : FnOk P w K mg base (L2.CX P w) (n + 1) a fd ["model"] (spF ⟨K, mg, w⟩ (runDef 1 6 (b_write_model cl)) 1) :=
  def_ok (ps := ["model"]) F sc_write_model fun cdv A outer s H E hr => by
    unfold b_write_model
    exact (fs_cons (f_set 1 sc_write_model.nd (pf_joined (PJs.cons pf_str (PJs.cons (pf_fmt (pf_ix (pf_meth0 cs.c_f_Model_frame hr (pass_of (takes_of rfl rfl rfl rfl)) (pf_var 0)) pf_int (fun _ _ => rfl))) (PJs.cons pf_str PJs.nil)))))
    (fs_cons (f_for (t := (.tp [2, 3])) (passes_of rfl) rfl (pfi_seq (pf_ix (pf_meth0 cs.c_f_Model_frame hr (pass_of (takes_of rfl rfl rfl rfl)) (pf_var 0)) pf_int (fun _ _ => rfl))) (pg_t rfl (pgn_cons (pg_n 2 sc_write_model.nd) (pgn_cons (pg_n 3 sc_write_model.nd) pgn_nil))) (fs_one (f_set 1 sc_write_model.nd (pf_op opf_add ok2_add (pf_var 1) (pf_joined (PJs.cons pf_str (PJs.cons (pf_fmt (pf_var 2)) (PJs.cons pf_str (PJs.cons (pf_fmt (pf_var 3)) (PJs.cons pf_str PJs.nil))))))))))
    (fs_cons (f_set 4 sc_write_model.nd (pf_meth0 cs.c_f_Model_true_worlds hr (pass_of (takes_of rfl rfl rfl rfl)) (pf_var 0)))
    (fs_cons (f_for (t := (.nm 5)) (passes_of rfl) rfl (pfi_seq (pf_callB (cr_sortTD rfl) (okL_one ok_sortTD) rfl B.m_sorted (by decide +kernel) (pfa_cons (pf_var 4) pfa_nil))) (pg_n 5 sc_write_model.nd) (fs_one (f_set 1 sc_write_model.nd (pf_op opf_add ok2_add (pf_op opf_add ok2_add (pf_op opf_add ok2_add (pf_var 1) pf_str) (pf_join pf_str (pf_op opf_add ok2_add (pf_lst (pfa_cons (pf_var 5) pfa_nil)) (pf_lc (own := [("w", 3)]) (t := (.nm 3)) kStill_ok (by decide) rfl sc_write_model.nd (pfi_seq (pf_dget (hu1 hr) (pf_var 4) (pf_var 5) (fun _ _ => rfl))) (blkOk_by (N := ["model", "text", "v", "w", "values", "name"]) (sc := defScope st_write_model) (by decide +kernel)) (fun _ _ _ _ _ => (pg_n 3 sc_write_model.nd)) (fun _ _ _ _ _ => fts_nil) (fun _ _ _ _ _ => (pf_callTy cf_strI (okL_one ok_strI) rfl B.m_str (by decide +kernel) (pfa_cons (pf_var 3) pfa_nil))))))) pf_str))))
    (fs_one (f_ret (pf_var 1)))))))

theorem ok_read_model (B : Bt K mg w) (cs : Cs P w K mg base n cl) {a : Addr} {fd : FuncData} (F : Fun K "read_model" "read_model" st_read_model a fd) : FnOk P w K mg base (L2.CX P w) (n + 1) a fd ["text"] (spF ⟨K, mg, w⟩ (runDef 1 12 (b_read_model cl)) 1) :=
  def_ok (ps := ["text"]) F sc_read_model fun cdv A outer s H E hr => by
    unfold b_read_model
    exact (fs_cons (f_set 1 sc_read_model.nd (pf_split (pf_var 0) (pfa_cons pf_str pfa_nil)))
    (fs_cons (f_set 2 sc_read_model.nd pf_int)
    (fs_tellX3 (f_set 3 sc_read_model.nd (pf_lstM pfa_nil)) (f_set 4 sc_read_model.nd pf_dnew) (f_for (t := (.tp [5, 6])) (passes_of rfl) rfl (pfi_enum rfl B.m_enumerate (pfa_cons (pf_sl (pf_var 1) pfo_none (pfo_some (pf_neg pf_int))) pfa_nil)) (pg_t rfl (pgn_cons (pg_n 5 sc_read_model.nd) (pgn_cons (pg_n 6 sc_read_model.nd) pgn_nil))) (fs_cons (f_set 7 sc_read_model.nd (pf_split (pf_var 6) (pfa_cons pf_str pfa_nil)))
    (fs_cons (f_set 8 sc_read_model.nd (pf_if (pt_cmpF (op_eqD hr.units) ok2_eq (pf_ix (pf_var 7) pf_int (fun _ _ => rfl)) pf_str (nomark _)) (pf_sl (pf_var 7) (pfo_some pf_int) pfo_none) (pf_sl (pf_var 7) (pfo_some pf_int) pfo_none)))
    (fs_cons (f_setLc 9 (own := [("word", 11)]) (t := (.nm 11)) kStill_ok (by decide) rfl sc_read_model.nd (sw_true rfl rfl rfl (by decide +kernel)) (pfi_seq (pf_var 8)) (blkOk_by (N := ["text", "lines", "worlds", "pairs", "values", "at", "line", "words", "known", "numbers", "model", "word"]) (sc := defScope st_read_model) (by decide +kernel)) (fun _ _ _ _ _ => (pg_n 11 sc_read_model.nd)) (fun _ _ _ _ _ => fts_nil) (fun _ _ _ _ _ => (pf_call cs.c_f_number_of hr pass_0 rfl (pfa_cons (pf_var 11) (pfa_cons (pf_glob rfl B.g_MAX_DIGITS) pfa_nil)))))
    (fs_one (f_if (PW.pt (pw_andF (pt_cmpF (op_eqD hr.units) ok2_eq (pf_ix (pf_var 7) pf_int (fun _ _ => rfl)) pf_str (nomark _)) (pw_andF (pt_cmpF (op_eqD hr.units) ok2_eq (pf_var 5) pf_int (nomark _)) (pw_and1F (pt_cmpF (op_eqD hr.units) ok2_eq (pf_callB cf_len (okL_one ok_len) rfl B.m_len PySem.boot_len (pfa_cons (pf_var 9) pfa_nil)) pf_int (nomark _)))))) (fs_one (f_set 2 sc_read_model.nd (pf_ix (pf_var 9) pf_int (fun _ _ => rfl)))) (fs_one (f_if (PW.pt (pw_andF (pt_cmpF (op_eqD hr.units) ok2_eq (pf_ix (pf_var 7) pf_int (fun _ _ => rfl)) pf_str (nomark _)) (pw_andF (pt_cmpF op_gt ok2_gt (pf_var 5) pf_int (nomark _)) (pw_and1F (pt_cmpF (op_eqD hr.units) ok2_eq (pf_callB cf_len (okL_one ok_len) rfl B.m_len PySem.boot_len (pfa_cons (pf_var 9) pfa_nil)) pf_int (nomark _)))))) (fs_one (f_expr (pf_append (pf_var 3) (pfa_cons (pf_tup (pfa_cons (pf_ix (pf_var 9) pf_int (fun _ _ => rfl)) (pfa_cons (pf_ix (pf_var 9) pf_int (fun _ _ => rfl)) pfa_nil))) pfa_nil)))) (fs_one (f_if (PW.pt (pw_andF (pt_cmpF (op_eqD hr.units) ok2_eq (pf_ix (pf_var 7) pf_int (fun _ _ => rfl)) pf_str (nomark _)) (pw_andF (pt_cmpF op_gt ok2_gt (pf_var 5) pf_int (nomark _)) (pw_andF (pt_cmpF op_gt ok2_gt (pf_callB cf_len (okL_one ok_len) rfl B.m_len PySem.boot_len (pfa_cons (pf_var 9) pfa_nil)) pf_int (nomark _)) (pw_andF (pt_tru (pf_call cs.c_f_is_name hr (pass_of (takes_of rfl rfl rfl rfl)) rfl (pfa_cons (pf_ix (pf_var 7) pf_int (fun _ _ => rfl)) pfa_nil))) (pw_and1F (pt_dnotIn (hu1 hr) (pf_ix (pf_var 7) pf_int (fun _ _ => rfl)) (pf_var 4)))))))) (fs_one (f_dput (hu1 hr) (pf_var 9) (pf_var 4) (pf_ix (pf_var 7) pf_int (fun _ _ => rfl)))) (fs_one (f_raise (B.xt.ad "InvalidText" (by decide +kernel)).1 rfl (takes_of rfl rfl rfl rfl) rfl))))))))))))
    (fs_cons (f_tryM (hdf_cons (fs := sSet 10 (cK .non)) B.xt (by decide +kernel) rfl (by decide) (fun a oe cls d pn hz hd => (fs_one (f_set 10 sc_read_model.nd pf_non))) hdf_nil) rfl rfl (takes_of rfl rfl rfl rfl) (fun W pn xe tk _ => (fs_one (f_set 10 sc_read_model.nd (pf_make cs.c_f_Model hr (pass_of tk) rfl (pfa_cons (pf_tup (pfa_cons (pf_var 2) (pfa_cons (pf_callTy cf_tuple (okL_one ok_tuple) rfl B.m_tuple (by decide +kernel) (pfa_cons (pf_var 3) pfa_nil)) pfa_nil))) (pfa_cons (pf_var 4) pfa_nil)))))))
    (fs_cons (f_if (PW.pt (pw_orF (pt_cmpF op_isN ok2_isN (pf_var 10) pf_non (nomark _)) (pw_or1F (pt_cmpF (op_neD hr.units) ok2_ne (pf_call cs.c_f_write_model hr (pass_of (takes_of rfl rfl rfl rfl)) rfl (pfa_cons (pf_var 10) pfa_nil)) (pf_var 0) (nomark _))))) (fs_one (f_raise (B.xt.ad "InvalidText" (by decide +kernel)).1 rfl (takes_of rfl rfl rfl rfl) rfl)) fs_nil)
    (fs_one (f_ret (pf_var 10))))))))

theorem ok_law_cell (B : Bt K mg w) (cs : Cs P w K mg base n cl) {a : Addr} {fd : FuncData} (F : Fun K "_law_cell" "_law_cell" st_law_cell a fd) : FnOk P w K mg base (L2.CX P w) (n + 1) a fd ["_law_script", "_law_k"] (spF ⟨K, mg, w⟩ (runDef 2 2 (b_law_cell cl)) 2) :=
  def_ok (ps := ["_law_script", "_law_k"]) F sc_law_cell fun cdv A outer s H E hr => by
    unfold b_law_cell
    exact (fs_cons (f_if (pt_cmpF op_lt ok2_lt (pf_var 1) (pf_callB cf_len (okL_one ok_len) rfl B.m_len PySem.boot_len (pfa_cons (pf_var 0) pfa_nil)) (nomark _)) (fs_one (f_ret (pf_ix (pf_var 0) (pf_var 1) (fun _ _ => rfl)))) fs_nil)
    (fs_one (f_ret pf_int)))

theorem ok_law_model_text (B : Bt K mg w) (cs : Cs P w K mg base n cl) {a : Addr} {fd : FuncData} (F : Fun K "_law_model_text" "_law_model_text" st_law_model_text a fd) : FnOk P w K mg base (L2.CX P w) (n + 1) a fd ["_law_worlds", "_law_pairs_here", "_law_values"] (spF ⟨K, mg, w⟩ (runDef 3 7 (b_law_model_text cl)) 3) :=
  def_ok (ps := ["_law_worlds", "_law_pairs_here", "_law_values"]) F sc_law_model_text fun cdv A outer s H E hr => by
    unfold b_law_model_text
    exact (fs_cons (f_set 3 sc_law_model_text.nd (pf_op opf_add ok2_add (pf_op opf_add ok2_add pf_str (pf_callTy cf_strI (okL_one ok_strI) rfl B.m_str (by decide +kernel) (pfa_cons (pf_var 0) pfa_nil))) pf_str))
    (fs_cons (f_for (t := (.nm 4)) (passes_of rfl) rfl (pfi_seq (pf_var 1)) (pg_n 4 sc_law_model_text.nd) (fs_one (f_set 3 sc_law_model_text.nd (pf_op opf_add ok2_add (pf_op opf_add ok2_add (pf_op opf_add ok2_add (pf_op opf_add ok2_add (pf_op opf_add ok2_add (pf_var 3) pf_str) (pf_callTy cf_strI (okL_one ok_strI) rfl B.m_str (by decide +kernel) (pfa_cons (pf_ix (pf_var 4) pf_int (fun _ _ => rfl)) pfa_nil))) pf_str) (pf_callTy cf_strI (okL_one ok_strI) rfl B.m_str (by decide +kernel) (pfa_cons (pf_ix (pf_var 4) pf_int (fun _ _ => rfl)) pfa_nil))) pf_str))))
    (fs_cons (f_for (t := (.nm 5)) (passes_of rfl) rfl (pfi_seq (pf_callB (cr_sortTD rfl) (okL_one ok_sortTD) rfl B.m_sorted (by decide +kernel) (pfa_cons (pf_var 2) pfa_nil))) (pg_n 5 sc_law_model_text.nd) (fs_one (f_if (pt_cmpF (op_neD hr.units) ok2_ne (pf_dget (hu1 hr) (pf_var 2) (pf_var 5) (fun _ _ => rfl)) (pf_lst pfa_nil) (nomark _)) (fs_one (f_set 3 sc_law_model_text.nd (pf_op opf_add ok2_add (pf_op opf_add ok2_add (pf_op opf_add ok2_add (pf_var 3) pf_str) (pf_join pf_str (pf_op opf_add ok2_add (pf_lst (pfa_cons (pf_var 5) pfa_nil)) (pf_lc (own := [("_law_w", 6)]) (t := (.nm 6)) kStill_ok (by decide) rfl sc_law_model_text.nd (pfi_seq (pf_sortSet rfl (hu70 hr) rfl B.m_sorted rfl B.m_set (pfa_cons (pf_dget (hu1 hr) (pf_var 2) (pf_var 5) (fun _ _ => rfl)) pfa_nil))) (blkOk_by (N := ["_law_worlds", "_law_pairs_here", "_law_values", "_law_text", "_law_pair", "_law_name", "_law_w"]) (sc := defScope st_law_model_text) (by decide +kernel)) (fun _ _ _ _ _ => (pg_n 6 sc_law_model_text.nd)) (fun _ _ _ _ _ => fts_nil) (fun _ _ _ _ _ => (pf_callTy cf_strI (okL_one ok_strI) rfl B.m_str (by decide +kernel) (pfa_cons (pf_var 6) pfa_nil))))))) pf_str))) fs_nil)))
    (fs_one (f_ret (pf_var 3))))))

theorem ok_law_pairs (B : Bt K mg w) (cs : Cs P w K mg base n cl) {a : Addr} {fd : FuncData} (F : Fun K "_law_pairs" "_law_pairs" st_law_pairs a fd) : FnOk P w K mg base (L2.CX P w) (n + 1) a fd ["_law_seen"] (spF ⟨K, mg, w⟩ (runDef 1 4 (b_law_pairs cl)) 1) :=
  def_ok (ps := ["_law_seen"]) F sc_law_pairs fun cdv A outer s H E hr => by
    unfold b_law_pairs
    exact (fs_cons (f_set 1 sc_law_pairs.nd (pf_lstM pfa_nil))
    (fs_cons (f_for (t := (.nm 2)) (passes_of rfl) rfl (pfi_rng1 rfl B.m_range (pfa_cons (pf_callB cf_len (okL_one ok_len) rfl B.m_len PySem.boot_len (pfa_cons (pf_var 0) pfa_nil)) pfa_nil)) (pg_n 2 sc_law_pairs.nd) (fs_one (f_for (t := (.nm 3)) (passes_of rfl) rfl (pfi_rng1 rfl B.m_range (pfa_cons (pf_callB cf_len (okL_one ok_len) rfl B.m_len PySem.boot_len (pfa_cons (pf_var 0) pfa_nil)) pfa_nil)) (pg_n 3 sc_law_pairs.nd) (fs_one (f_if (pt_tru (pf_ix (pf_ix (pf_var 0) (pf_var 2) (fun _ _ => rfl)) (pf_var 3) (fun _ _ => rfl))) (fs_one (f_expr (pf_append (pf_var 1) (pfa_cons (pf_tup (pfa_cons (pf_var 2) (pfa_cons (pf_var 3) pfa_nil))) pfa_nil)))) fs_nil)))))
    (fs_one (f_ret (pf_var 1)))))

theorem ok_law_refused (B : Bt K mg w) (cs : Cs P w K mg base n cl) {a : Addr} {fd : FuncData} (F : Fun K "_law_refused" "_law_refused" st_law_refused a fd) : FnOk P w K mg base (L2.CX P w) (n + 1) a fd ["_law_text"] (spF ⟨K, mg, w⟩ (runDef 1 2 (b_law_refused cl)) 1) :=
  def_ok (ps := ["_law_text"]) F sc_law_refused fun cdv A outer s H E hr => by
    unfold b_law_refused
    exact (fs_cons (f_tryT 1 (fs := fun c => sRet (cK (.bl (subL c "InvalidText")))) B.xt (by decide +kernel) rfl (by decide) fs_nil rfl rfl sc_law_refused.nd rfl rfl (takes_of rfl rfl rfl rfl) (fun W pn xe tk _ => (fs_one (f_expr (pf_call cs.c_f_read_model hr (pass_of tk) rfl (pfa_cons (pf_var 0) pfa_nil))))) (fun c a oe cls d pn hc hz hd => (fsp_one (f_retp (pfp_isT B.xt hc (by decide +kernel) hz hd rfl B.m_isinstance rfl)))))
    (fs_one (f_ret pf_bl)))

theorem ok_law (B : Bt K mg w) (cs : Cs P w K mg base n cl) {a : Addr} {fd : FuncData} (F : Fun K "law" "law" st_law a fd) : FnOk P w K mg base (L2.CX P w) (n + 1) a fd ["_law_script"] (spF ⟨K, mg, w⟩ (runDef 1 15 (b_law cl)) 1) :=
  def_ok (ps := ["_law_script"]) F sc_law fun cdv A outer s H E hr => by
    unfold b_law
    exact (fs_cons (f_set 1 sc_law.nd (pf_callB cf_abs (okL_one ok_abs) rfl B.m_abs (by decide +kernel) (pfa_cons (pf_call cs.c_f_law_cell hr (pass_of (takes_of rfl rfl rfl rfl)) rfl (pfa_cons (pf_var 0) (pfa_cons pf_int pfa_nil))) pfa_nil)))
    (fs_cons (f_set 2 sc_law.nd (pf_callB cf_abs (okL_one ok_abs) rfl B.m_abs (by decide +kernel) (pfa_cons (pf_call cs.c_f_law_cell hr (pass_of (takes_of rfl rfl rfl rfl)) rfl (pfa_cons (pf_var 0) (pfa_cons pf_int pfa_nil))) pfa_nil)))
    (fs_cons (f_set 3 sc_law.nd (pf_op opf_add ok2_add pf_int (pf_op op_mod ok2_mod (pf_callTy cf_int (okL_one ok_int1) rfl B.m_int (by decide +kernel) (pfa_cons (pf_var 1) pfa_nil)) pf_int)))
    (fs_cons (f_setLc 4 (own := [("_law_v", 13)]) (t := (.nm 13)) kStill_ok (by decide) rfl sc_law.nd (sw_true rfl rfl rfl (by decide +kernel)) (pfi_rng1 rfl B.m_range (pfa_cons (pf_var 3) pfa_nil)) (blkOk_by (N := ["_law_script", "_law_digit", "_law_cell_here", "_law_worlds", "_law_seen", "_law_pairs_here", "_law_text", "_law_lines", "_law_way", "_law_spot", "_law_other", "_law_kept", "_law_last", "_law_v", "_law_w"]) (sc := defScope st_law) (by decide +kernel)) (fun _ _ _ _ _ => (pg_n 13 sc_law.nd)) (fun _ _ _ _ _ => fts_nil) (fun _ _ _ _ _ => (pf_lc (own := [("_law_w", 14)]) (t := (.nm 14)) kStill_ok (by decide) rfl sc_law.nd (pfi_rng1 rfl B.m_range (pfa_cons (pf_var 3) pfa_nil)) (blkOk_by (by kernel_rfl)) (fun _ _ _ _ _ => (pg_n 14 sc_law.nd)) (fun _ _ _ _ _ => fts_nil) (fun _ _ _ _ _ => (pf_or (pf_cmp (op_eqD hr.units) ok2_eq (pf_op op_and ok2_band (pf_op op_shr ok2_shr (pf_var 2) (pf_op opf_add ok2_add (pf_op op_mul ok2_mul pf_int (pf_var 13)) (pf_var 14))) pf_int) pf_int (nomark _)) (pf_one (pf_cmp (op_inTD (hu65 hr)) ok2_inT (pf_tup (pfa_cons (pf_var 13) (pfa_cons (pf_var 14) pfa_nil))) (pf_tup (pfa_cons (pf_tup (pfa_cons pf_int (pfa_cons pf_int pfa_nil))) (pfa_cons (pf_tup (pfa_cons pf_int (pfa_cons pf_int pfa_nil))) pfa_nil))) (by rfl))))))))
    (fs_cons (f_set 5 sc_law.nd (pf_call cs.c_f_law_pairs hr (pass_of (takes_of rfl rfl rfl rfl)) rfl (pfa_cons (pf_var 4) pfa_nil)))
    (fs_cons (f_set 6 sc_law.nd (pf_call cs.c_f_law_model_text hr (pass_of (takes_of rfl rfl rfl rfl)) rfl (pfa_cons (pf_var 3) (pfa_cons (pf_var 5) (pfa_cons (pf_disp (pps_c pf_str (pf_lst (pfa_cons pf_int (pfa_cons pf_int pfa_nil))) (pps_c pf_str (pf_lst (pfa_cons (pf_op op_sub ok2_sub (pf_var 3) pf_int) pfa_nil)) pps_n))) pfa_nil)))))
    (fs_cons (f_expr (pf_call cs.c_f_read_model hr (pass_of (takes_of rfl rfl rfl rfl)) rfl (pfa_cons (pf_var 6) pfa_nil)))
    (fs_cons (f_set 7 sc_law.nd (pf_splitM (pf_sl (pf_var 6) pfo_none (pfo_some (pf_op op_sub ok2_sub (pf_callB cf_len (okL_one ok_len) rfl B.m_len PySem.boot_len (pfa_cons (pf_var 6) pfa_nil)) pf_int))) (pfa_cons pf_str pfa_nil)))
    (fs_cons (f_set 8 sc_law.nd (pf_op op_mod ok2_mod (pf_op op_fdiv ok2_div (pf_var 1) pf_int) pf_int))
    (fs_cons (f_set 9 sc_law.nd (pf_op op_mod ok2_mod (pf_op op_fdiv ok2_div (pf_var 1) pf_int) (pf_callB cf_len (okL_one ok_len) rfl B.m_len PySem.boot_len (pfa_cons (pf_var 7) pfa_nil))))
    (fs_cons (f_if (pt_cmpF (op_eqD hr.units) ok2_eq (pf_var 8) pf_int (nomark _)) (fs_one (f_ret (pf_call cs.c_f_law_refused hr (pass_of (takes_of rfl rfl rfl rfl)) rfl (pfa_cons (pf_sl (pf_var 6) pfo_none (pfo_some (pf_op op_sub ok2_sub (pf_callB cf_len (okL_one ok_len) rfl B.m_len PySem.boot_len (pfa_cons (pf_var 6) pfa_nil)) pf_int))) pfa_nil)))) fs_nil)
    (fs_cons (f_if (pt_cmpF (op_eqD hr.units) ok2_eq (pf_var 8) pf_int (nomark _)) (fs_one (f_ret (pf_call cs.c_f_law_refused hr (pass_of (takes_of rfl rfl rfl rfl)) rfl (pfa_cons (pf_op opf_add ok2_add (pf_join pf_str (pf_sl (pf_var 7) (pfo_some pf_int) pfo_none)) pf_str) pfa_nil)))) fs_nil)
    (fs_cons (f_if (pt_cmpF (op_eqD hr.units) ok2_eq (pf_var 8) pf_int (nomark _)) (fs_one (f_expr (pf_insert (pf_var 7) (pfa_cons (pf_var 9) (pfa_cons (pf_ix (pf_var 7) (pf_var 9) (fun _ _ => rfl)) pfa_nil))))) fs_nil)
    (fs_cons (f_if (pt_cmpF (op_eqD hr.units) ok2_eq (pf_var 8) pf_int (nomark _)) (fs_cons (f_set 10 sc_law.nd (pf_op op_mod ok2_mod (pf_callTy cf_int (okL_one ok_int1) rfl B.m_int (by decide +kernel) (pfa_cons (pf_op opf_add ok2_add (pf_var 9) pf_int) pfa_nil)) (pf_callB cf_len (okL_one ok_len) rfl B.m_len PySem.boot_len (pfa_cons (pf_var 7) pfa_nil))))
    (fs_cons (f_set 11 sc_law.nd (pf_ix (pf_var 7) (pf_var 9) (fun _ _ => rfl)))
    (fs_cons (f_put (pf_ix (pf_var 7) (pf_var 10) (fun _ _ => rfl)) (pf_var 7) (pf_var 9))
    (fs_one (f_put (pf_var 11) (pf_var 7) (pf_var 10)))))) fs_nil)
    (fs_cons (f_if (pt_cmpF (op_eqD hr.units) ok2_eq (pf_var 8) pf_int (nomark _)) (fs_one (f_put (pf_ix (pf_lst (pfak_cons (pfk_add opf_add ok2_add (pf_ix (pf_var 7) (pf_var 9) (fun _ _ => rfl))) (pfat_cons (pfet_of (pf_op opf_add ok2_add pf_str (pf_ix (pf_var 7) (pf_var 9) (fun _ _ => rfl)))) (pfat_cons (pfet_repl1 (pf_ix (pf_var 7) (pf_var 9) (fun _ _ => rfl))) pfat_nil)))) (pf_op op_mod ok2_mod (pf_callTy cf_int (okL_one ok_int1) rfl B.m_int (by decide +kernel) (pfa_cons (pf_var 2) pfa_nil)) pf_int) (fun _ _ => rfl)) (pf_var 7) (pf_var 9))) fs_nil)
    (fs_cons (f_if (pt_cmpF (op_eqD hr.units) ok2_eq (pf_var 8) pf_int (nomark _)) (fs_one (f_put (pf_ix (pf_lst (pfa_cons pf_str (pfa_cons pf_str (pfa_cons pf_str (pfa_cons pf_str (pfa_cons pf_str (pfa_cons (pf_op opf_add ok2_add pf_str (pf_callTy cf_strI (okL_one ok_strI) rfl B.m_str (by decide +kernel) (pfa_cons (pf_var 3) pfa_nil))) (pfa_cons pf_str (pfa_cons pf_str (pfa_cons pf_str pfa_nil)))))))))) (pf_op op_mod ok2_mod (pf_callTy cf_int (okL_one ok_int1) rfl B.m_int (by decide +kernel) (pfa_cons (pf_var 2) pfa_nil)) pf_int) (fun _ _ => rfl)) (pf_var 7) pf_int)) fs_nil)
    (fs_cons (f_if (pt_cmpF (op_eqD hr.units) ok2_eq (pf_var 8) pf_int (nomark _)) (fs_cons (f_set 12 sc_law.nd (pf_op op_sub ok2_sub (pf_callB cf_len (okL_one ok_len) rfl B.m_len PySem.boot_len (pfa_cons (pf_var 7) pfa_nil)) pf_int))
    (fs_one (f_put (pf_ix (pf_lst (pfa_cons pf_str (pfa_cons pf_str (pfa_cons pf_str (pfa_cons pf_str (pfa_cons pf_str (pfa_cons pf_str (pfa_cons pf_str (pfa_cons pf_str (pfa_cons pf_str pfa_nil)))))))))) (pf_op op_mod ok2_mod (pf_callTy cf_int (okL_one ok_int1) rfl B.m_int (by decide +kernel) (pfa_cons (pf_var 2) pfa_nil)) pf_int) (fun _ _ => rfl)) (pf_var 7) (pf_var 12)))) fs_nil)
    (fs_cons (f_if (pt_cmpF (op_eqD hr.units) ok2_eq (pf_var 8) pf_int (nomark _)) (fs_one (f_put (pf_ix (pf_lst (pfa_cons pf_str (pfa_cons pf_str (pfa_cons pf_str (pfa_cons pf_str (pfa_cons pf_str (pfa_cons pf_str (pfa_cons pf_str (pfa_cons pf_str pfa_nil))))))))) (pf_op op_mod ok2_mod (pf_callTy cf_int (okL_one ok_int1) rfl B.m_int (by decide +kernel) (pfa_cons (pf_var 2) pfa_nil)) pf_int) (fun _ _ => rfl)) (pf_var 7) pf_int)) fs_nil)
    (fs_cons (f_if (pt_cmpF (op_eqD hr.units) ok2_eq (pf_var 8) pf_int (nomark _)) (fs_one (f_expr (pf_append (pf_var 7) (pfa_cons (pf_ix (pf_lst (pfa_cons pf_str (pfa_cons pf_str (pfa_cons pf_str (pfa_cons pf_str (pfa_cons pf_str (pfa_cons pf_str pfa_nil))))))) (pf_op op_mod ok2_mod (pf_callTy cf_int (okL_one ok_int1) rfl B.m_int (by decide +kernel) (pfa_cons (pf_var 2) pfa_nil)) pf_int) (fun _ _ => rfl)) pfa_nil)))) fs_nil)
    (fs_one (f_ret (pf_call cs.c_f_law_refused hr (pass_of (takes_of rfl rfl rfl rfl)) rfl (pfa_cons (pf_op opf_add ok2_add (pf_join pf_str (pf_var 7)) pf_str) pfa_nil)))))))))))))))))))))))

theorem ok_Model_init (B : Bt K mg w) (cs : Cs P w K mg base n cl) {a : Addr} {fd : FuncData} (F : Fun K "__init__" "Model.__init__" st_Model_init a fd) : FnOk P w K mg base (L2.CX P w) (n + 1) a fd ["self", "frame", "values"] (spF ⟨K, mg, w⟩ (runDef 3 7 (b_Model_init cl)) 3) :=
  def_ok (ps := ["self", "frame", "values"]) F sc_Model_init fun cdv A outer s H E hr => by
    unfold b_Model_init
    exact (fs_cons (f_if (pt_notF (pt_tru (pf_call cs.c_f_is_frame hr (pass_of (takes_of rfl rfl rfl rfl)) rfl (pfa_cons (pf_var 1) pfa_nil)))) (fs_one (f_raise (B.xt.ad "InvalidModel" (by decide +kernel)).1 rfl (takes_of rfl rfl rfl rfl) rfl)) fs_nil)
    (fs_cons (f_setF B.k_Model (pf_var 0) (pf_tup (pfa_cons (pf_ix (pf_var 1) pf_int (fun _ _ => rfl)) (pfa_cons (pf_callTy cf_tuple (okL_one ok_tuple) rfl B.m_tuple (by decide +kernel) (pfa_cons (pf_ix (pf_var 1) pf_int (fun _ _ => rfl)) pfa_nil)) pfa_nil))))
    (fs_cons (f_setF B.k_Model (pf_var 0) (pf_lc (own := [("_", 6)]) (t := (.nm 6)) kMut_ok (by decide) rfl sc_Model_init.nd (pfi_rng1 rfl B.m_range (pfa_cons (pf_ix (pf_var 1) pf_int (fun _ _ => rfl)) pfa_nil)) (blkOk_by (N := ["self", "frame", "values", "v", "w", "name", "_"]) (sc := defScope st_Model_init) (by decide +kernel)) (fun _ _ _ _ _ => (pg_n 6 sc_Model_init.nd)) (fun _ _ _ _ _ => fts_nil) (fun _ _ _ _ _ => (pf_lstM pfa_nil))))
    (fs_cons (f_for (t := (.tp [3, 4])) (passes_of rfl) rfl (pfi_seq (pf_ix (pf_var 1) pf_int (fun _ _ => rfl))) (pg_t rfl (pgn_cons (pg_n 3 sc_Model_init.nd) (pgn_cons (pg_n 4 sc_Model_init.nd) pgn_nil))) (fs_one (f_expr (pf_append (pf_ix (pf_fld B.k_Model (pf_var 0)) (pf_var 3) (fun _ _ => rfl)) (pfa_cons (pf_var 4) pfa_nil)))))
    (fs_cons (f_setF B.k_Model (pf_var 0) pf_dnew)
    (fs_one (f_forDX (t := (.nm 5)) 2 (passes_of rfl) rfl (pg_n 5 sc_Model_init.nd) (takes_of rfl rfl rfl rfl) (fun _ tkx => (fs_cons (f_forM (t := (.nm 4)) (n := 100) (passes_of rfl) rfl (pf_dget (hu1 hr) (pf_var 2) (pf_var 5) (fun _ _ => rfl)) (pg_n 4 sc_Model_init.nd) (fs_one (f_if (pt_notF (pt_tru (pf_call cs.c_f_is_world hr (pass_of tkx) rfl (pfa_cons (pf_var 4) (pfa_cons (pf_ix (pf_var 1) pf_int (fun _ _ => rfl)) pfa_nil))))) (fs_one (f_raise (B.xt.ad "InvalidModel" (by decide +kernel)).1 rfl tkx rfl)) fs_nil)))
    (fs_one (f_if (pt_cmpF op_gt ok2_gt (pf_callB cf_len (okL_one ok_len) rfl B.m_len PySem.boot_len (pfa_cons (pf_dget (hu1 hr) (pf_var 2) (pf_var 5) (fun _ _ => rfl)) pfa_nil)) pf_int (nomark _)) (fs_one (f_dput (hu1 hr) (pf_sortSet rfl (hu70 hr) rfl B.m_sorted rfl B.m_set (pfa_cons (pf_dget (hu1 hr) (pf_var 2) (pf_var 5) (fun _ _ => rfl)) pfa_nil)) (pf_fld B.k_Model (pf_var 0)) (pf_var 5))) fs_nil)))))))))))

theorem ok_Model_frame (B : Bt K mg w) (cs : Cs P w K mg base n cl) {a : Addr} {fd : FuncData} (F : Fun K "frame" "Model.frame" st_Model_frame a fd) : FnOk P w K mg base (L2.CX P w) (n + 1) a fd ["self"] (spF ⟨K, mg, w⟩ (runDef 1 1 (b_Model_frame cl)) 1) :=
  def_ok (ps := ["self"]) F sc_Model_frame fun cdv A outer s H E hr => by
    unfold b_Model_frame
    exact (fs_one (f_ret (pf_fld B.k_Model (pf_var 0))))

theorem ok_Model_true_worlds (B : Bt K mg w) (cs : Cs P w K mg base n cl) {a : Addr} {fd : FuncData} (F : Fun K "true_worlds" "Model.true_worlds" st_Model_true_worlds a fd) : FnOk P w K mg base (L2.CX P w) (n + 1) a fd ["self"] (spF ⟨K, mg, w⟩ (runDef 1 2 (b_Model_true_worlds cl)) 1) :=
  def_ok (ps := ["self"]) F sc_Model_true_worlds fun cdv A outer s H E hr => by
    unfold b_Model_true_worlds
    exact (fs_one (f_ret (pf_dcA (own := [("name", 1)]) (t := (.nm 1)) 0 B.k_Model (by decide) rfl sc_Model_true_worlds.nd (blkOk_by (N := ["self", "name"]) (sc := defScope st_Model_true_worlds) (by decide +kernel)) (fun _ _ _ _ _ => (pg_n 1 sc_Model_true_worlds.nd)) (fun _ _ _ _ _ => (pf_var 1)) (fun _ _ _ _ _ => (pf_callTy cf_list (okL_one ok_list) rfl B.m_list (by decide +kernel) (pfa_cons (pf_dget (hu1 hr) (pf_fld B.k_Model (pf_var 0)) (pf_var 1) (fun _ _ => rfl)) pfa_nil))))))

end

/-- what stands behind the top -/
structure Ad (K : PySem.W.Frag) (mg : Str → Option Value) (w : World) : Prop where
  bt : Bt K mg w
  a_f_is_world : ∃ a fd, mg "is_world" = some (.ref a) ∧ Fun K "is_world" "is_world" st_is_world a fd ∧ Binds K fd ["value", "worlds"] []
  a_f_is_frame : ∃ a fd, mg "is_frame" = some (.ref a) ∧ Fun K "is_frame" "is_frame" st_is_frame a fd ∧ Binds K fd ["frame"] []
  a_f_is_name : ∃ a fd, mg "is_name" = some (.ref a) ∧ Fun K "is_name" "is_name" st_is_name a fd ∧ Binds K fd ["text"] []
  a_f_number_of : ∃ a fd, mg "number_of" = some (.ref a) ∧ Fun K "number_of" "number_of" st_number_of a fd ∧ Binds K fd ["word", "most"] []
  a_f_write_model : ∃ a fd, mg "write_model" = some (.ref a) ∧ Fun K "write_model" "write_model" st_write_model a fd ∧ Binds K fd ["model"] []
  a_f_read_model : ∃ a fd, mg "read_model" = some (.ref a) ∧ Fun K "read_model" "read_model" st_read_model a fd ∧ Binds K fd ["text"] []
  a_f_law_cell : ∃ a fd, mg "_law_cell" = some (.ref a) ∧ Fun K "_law_cell" "_law_cell" st_law_cell a fd ∧ Binds K fd ["_law_script", "_law_k"] []
  a_f_law_model_text : ∃ a fd, mg "_law_model_text" = some (.ref a) ∧ Fun K "_law_model_text" "_law_model_text" st_law_model_text a fd ∧ Binds K fd ["_law_worlds", "_law_pairs_here", "_law_values"] []
  a_f_law_pairs : ∃ a fd, mg "_law_pairs" = some (.ref a) ∧ Fun K "_law_pairs" "_law_pairs" st_law_pairs a fd ∧ Binds K fd ["_law_seen"] []
  a_f_law_refused : ∃ a fd, mg "_law_refused" = some (.ref a) ∧ Fun K "_law_refused" "_law_refused" st_law_refused a fd ∧ Binds K fd ["_law_text"] []
  a_f_law : ∃ a fd, mg "law" = some (.ref a) ∧ Fun K "law" "law" st_law a fd ∧ Binds K fd ["_law_script"] []
  a_f_Model_init : ∃ A f fd, mg "Model" = some (.ref A) ∧ Mk K A f ∧ Fun K "__init__" "Model.__init__" st_Model_init f fd ∧ Binds K fd ["self", "frame", "values"] []
  a_f_Model_frame : ∃ A f fd, mg "Model" = some (.ref A) ∧ Cls K A ∧ Meth K A "frame" f ∧ Fun K "frame" "Model.frame" st_Model_frame f fd ∧ Binds K fd ["self"] []
  a_f_Model_true_worlds : ∃ A f fd, mg "Model" = some (.ref A) ∧ Cls K A ∧ Meth K A "true_worlds" f ∧ Fun K "true_worlds" "Model.true_worlds" st_Model_true_worlds f fd ∧ Binds K fd ["self"] []
  a_f_Model : ∃ A, mg "Model" = some (.ref A) ∧ PySem.W.keepIn K (.ref A) = true

theorem all_ok {P : Program} {w : World} {K : PySem.W.Frag} {mg : Str → Option Value} {base : Heap} (T : Ad K mg w) : ∀ n, Cs P w K mg base n (ev n)
  | 0 => {
      c_f_is_world := by
        obtain ⟨a, fd, m, F, b⟩ := T.a_f_is_world
        exact ⟨a, fd, _, m, F.kp, b, rfl, no_ok⟩,
      c_f_is_frame := by
        obtain ⟨a, fd, m, F, b⟩ := T.a_f_is_frame
        exact ⟨a, fd, _, m, F.kp, b, rfl, no_ok⟩,
      c_f_is_name := by
        obtain ⟨a, fd, m, F, b⟩ := T.a_f_is_name
        exact ⟨a, fd, _, m, F.kp, b, rfl, no_ok⟩,
      c_f_number_of := by
        obtain ⟨a, fd, m, F, b⟩ := T.a_f_number_of
        exact ⟨a, fd, _, m, F.kp, b, rfl, no_ok⟩,
      c_f_write_model := by
        obtain ⟨a, fd, m, F, b⟩ := T.a_f_write_model
        exact ⟨a, fd, _, m, F.kp, b, rfl, no_ok⟩,
      c_f_read_model := by
        obtain ⟨a, fd, m, F, b⟩ := T.a_f_read_model
        exact ⟨a, fd, _, m, F.kp, b, rfl, no_ok⟩,
      c_f_law_cell := by
        obtain ⟨a, fd, m, F, b⟩ := T.a_f_law_cell
        exact ⟨a, fd, _, m, F.kp, b, rfl, no_ok⟩,
      c_f_law_model_text := by
        obtain ⟨a, fd, m, F, b⟩ := T.a_f_law_model_text
        exact ⟨a, fd, _, m, F.kp, b, rfl, no_ok⟩,
      c_f_law_pairs := by
        obtain ⟨a, fd, m, F, b⟩ := T.a_f_law_pairs
        exact ⟨a, fd, _, m, F.kp, b, rfl, no_ok⟩,
      c_f_law_refused := by
        obtain ⟨a, fd, m, F, b⟩ := T.a_f_law_refused
        exact ⟨a, fd, _, m, F.kp, b, rfl, no_ok⟩,
      c_f_law := by
        obtain ⟨a, fd, m, F, b⟩ := T.a_f_law
        exact ⟨a, fd, _, m, F.kp, b, rfl, no_ok⟩,
      c_f_Model_init := by
        obtain ⟨A, a, fd, m, mk, F, b⟩ := T.a_f_Model_init
        exact ⟨A, a, fd, _, m, mk, b, no_ok⟩,
      c_f_Model_frame := by
        obtain ⟨A, a, fd, m, cl, mt, F, b⟩ := T.a_f_Model_frame
        exact meth_no m cl mt,
      c_f_Model_true_worlds := by
        obtain ⟨A, a, fd, m, cl, mt, F, b⟩ := T.a_f_Model_true_worlds
        exact meth_no m cl mt,
      c_f_Model := by
        obtain ⟨A, m, kp⟩ := T.a_f_Model
        exact make_no m kp }
  | n + 1 => by
    have ih := all_ok (P := P) (w := w) (base := base) T n
    exact {
      c_f_is_world := by
        obtain ⟨a, fd, m, F, b⟩ := T.a_f_is_world
        exact ⟨a, fd, _, m, F.kp, b, rfl, (ok_is_world T.bt ih F)⟩,
      c_f_is_frame := by
        obtain ⟨a, fd, m, F, b⟩ := T.a_f_is_frame
        exact ⟨a, fd, _, m, F.kp, b, rfl, (ok_is_frame T.bt ih F)⟩,
      c_f_is_name := by
        obtain ⟨a, fd, m, F, b⟩ := T.a_f_is_name
        exact ⟨a, fd, _, m, F.kp, b, rfl, (ok_is_name T.bt ih F)⟩,
      c_f_number_of := by
        obtain ⟨a, fd, m, F, b⟩ := T.a_f_number_of
        exact ⟨a, fd, _, m, F.kp, b, rfl, (pure_ok (ok_number_of T.bt ih F))⟩,
      c_f_write_model := by
        obtain ⟨a, fd, m, F, b⟩ := T.a_f_write_model
        exact ⟨a, fd, _, m, F.kp, b, rfl, (pure_ok (ok_write_model T.bt ih F))⟩,
      c_f_read_model := by
        obtain ⟨a, fd, m, F, b⟩ := T.a_f_read_model
        exact ⟨a, fd, _, m, F.kp, b, rfl, (pure_ok (ok_read_model T.bt ih F))⟩,
      c_f_law_cell := by
        obtain ⟨a, fd, m, F, b⟩ := T.a_f_law_cell
        exact ⟨a, fd, _, m, F.kp, b, rfl, (ok_law_cell T.bt ih F)⟩,
      c_f_law_model_text := by
        obtain ⟨a, fd, m, F, b⟩ := T.a_f_law_model_text
        exact ⟨a, fd, _, m, F.kp, b, rfl, (pure_ok (ok_law_model_text T.bt ih F))⟩,
      c_f_law_pairs := by
        obtain ⟨a, fd, m, F, b⟩ := T.a_f_law_pairs
        exact ⟨a, fd, _, m, F.kp, b, rfl, (pure_ok (ok_law_pairs T.bt ih F))⟩,
      c_f_law_refused := by
        obtain ⟨a, fd, m, F, b⟩ := T.a_f_law_refused
        exact ⟨a, fd, _, m, F.kp, b, rfl, (pure_ok (ok_law_refused T.bt ih F))⟩,
      c_f_law := by
        obtain ⟨a, fd, m, F, b⟩ := T.a_f_law
        exact ⟨a, fd, _, m, F.kp, b, rfl, (ok_law T.bt ih F)⟩,
      c_f_Model_init := by
        obtain ⟨A, a, fd, m, mk, F, b⟩ := T.a_f_Model_init
        exact ⟨A, a, fd, _, m, mk, b, ok_Model_init T.bt ih F⟩,
      c_f_Model_frame := by
        obtain ⟨A, a, fd, m, cl, mt, F, b⟩ := T.a_f_Model_frame
        exact (meth_ok m cl mt (ok_Model_frame T.bt ih F) b),
      c_f_Model_true_worlds := by
        obtain ⟨A, a, fd, m, cl, mt, F, b⟩ := T.a_f_Model_true_worlds
        exact (meth_pure (meth_ok m cl mt (ok_Model_true_worlds T.bt ih F) b)),
      c_f_Model := by
        obtain ⟨A, a, fd, ps, m, mk, b, F⟩ := ih.c_f_Model_init
        exact (make_pure (make_ok m mk F b)) }
set_option maxHeartbeats 0 in
theorem ad_mk {w : World} {K : PySem.W.Frag} {h : Heap} {mg : Str → Option Value} {fa : Addr} (X : K.In h) (G : h.Ns mainGlobals mg) (hfa : mg "law" = some (.ref fa))
    {C0 : Addr}
    {f0 : Addr} {od0 an0 : Option Addr} {sl0 : Array (Option Value)} {oc0 kV0 dc0 pm0 cd0 ct0 : Value}
    {f1 : Addr} {od1 an1 : Option Addr} {sl1 : Array (Option Value)} {oc1 kV1 dc1 pm1 cd1 ct1 : Value}
    {f2 : Addr} {od2 an2 : Option Addr} {sl2 : Array (Option Value)} {oc2 kV2 dc2 pm2 cd2 ct2 : Value}
    {f3 : Addr} {od3 an3 : Option Addr} {sl3 : Array (Option Value)} {oc3 kV3 dc3 pm3 cd3 ct3 : Value}
    {f4 : Addr} {od4 an4 : Option Addr} {sl4 : Array (Option Value)} {oc4 kV4 dc4 pm4 cd4 ct4 : Value}
    {f5 : Addr} {od5 an5 : Option Addr} {sl5 : Array (Option Value)} {oc5 kV5 dc5 pm5 cd5 ct5 : Value}
    {f6 : Addr} {od6 an6 : Option Addr} {sl6 : Array (Option Value)} {oc6 kV6 dc6 pm6 cd6 ct6 : Value}
    {f7 : Addr} {od7 an7 : Option Addr} {sl7 : Array (Option Value)} {oc7 kV7 dc7 pm7 cd7 ct7 : Value}
    {f8 : Addr} {od8 an8 : Option Addr} {sl8 : Array (Option Value)} {oc8 kV8 dc8 pm8 cd8 ct8 : Value}
    {f9 : Addr} {od9 an9 : Option Addr} {sl9 : Array (Option Value)} {oc9 kV9 dc9 pm9 cd9 ct9 : Value}
    {f10 : Addr} {od10 an10 : Option Addr} {sl10 : Array (Option Value)} {oc10 kV10 dc10 pm10 cd10 ct10 : Value}
    {f11 : Addr} {od11 an11 : Option Addr} {sl11 : Array (Option Value)} {oc11 kV11 dc11 pm11 cd11 ct11 : Value}
    {f12 : Addr} {od12 an12 : Option Addr} {sl12 : Array (Option Value)} {oc12 kV12 dc12 pm12 cd12 ct12 : Value}
    {f13 : Addr} {od13 an13 : Option Addr} {sl13 : Array (Option Value)} {oc13 kV13 dc13 pm13 cd13 ct13 : Value}
    {tk0 : Tok}
    {tk1 : Tok}
    {tk2 : Tok}
    {x0 : Addr}
    {x1 : Addr}
    {x2 : Addr}
    (ka0 : PySem.W.nsIn K mainGlobals "Model" = some (some (.ref C0)))
    (kb0 : PySem.W.plainGet K C0 Str.empty = true)
    (kc0 : PySem.W.hasDictIn K C0 = true)
    (kd0 : PySem.W.plainOver K C0 = true)
    (ke0 : PySem.W.findIn K (.ref C0) "__setattr__" = some (some (.builtin "object.__setattr__")))
    (kf0 : PySem.W.makesIn K C0 = true)
    (kg0 : PySem.W.keepIn K (.ref C0) = true)
    (kh0_0 : PySem.W.findIn K (.ref C0) "_frame" = some none)
    (kh0_1 : PySem.W.findIn K (.ref C0) "_seen" = some none)
    (kh0_2 : PySem.W.findIn K (.ref C0) "_values" = some none)
    (a0 : PySem.W.nsIn K mainGlobals "is_world" = some (some (.ref f0)))
    (l0 : K.lookup f0 = some ⟨oc0, od0, .func (PySem.W.fnOf "is_world" "is_world" (defArgs st_is_world) (defBody st_is_world) (defScope st_is_world) .none kV0 dc0 pm0 an0 cd0 ct0), sl0⟩)
    (c0 : PySem.W.codeIn K cd0 "is_world" = true)
    (k0 : PySem.W.keepIn K (.ref f0) = true)
    (a1 : PySem.W.nsIn K mainGlobals "is_frame" = some (some (.ref f1)))
    (l1 : K.lookup f1 = some ⟨oc1, od1, .func (PySem.W.fnOf "is_frame" "is_frame" (defArgs st_is_frame) (defBody st_is_frame) (defScope st_is_frame) .none kV1 dc1 pm1 an1 cd1 ct1), sl1⟩)
    (c1 : PySem.W.codeIn K cd1 "is_frame" = true)
    (k1 : PySem.W.keepIn K (.ref f1) = true)
    (a2 : PySem.W.nsIn K mainGlobals "is_name" = some (some (.ref f2)))
    (l2 : K.lookup f2 = some ⟨oc2, od2, .func (PySem.W.fnOf "is_name" "is_name" (defArgs st_is_name) (defBody st_is_name) (defScope st_is_name) .none kV2 dc2 pm2 an2 cd2 ct2), sl2⟩)
    (c2 : PySem.W.codeIn K cd2 "is_name" = true)
    (k2 : PySem.W.keepIn K (.ref f2) = true)
    (a3 : PySem.W.nsIn K mainGlobals "number_of" = some (some (.ref f3)))
    (l3 : K.lookup f3 = some ⟨oc3, od3, .func (PySem.W.fnOf "number_of" "number_of" (defArgs st_number_of) (defBody st_number_of) (defScope st_number_of) .none kV3 dc3 pm3 an3 cd3 ct3), sl3⟩)
    (c3 : PySem.W.codeIn K cd3 "number_of" = true)
    (k3 : PySem.W.keepIn K (.ref f3) = true)
    (a4 : PySem.W.nsIn K mainGlobals "write_model" = some (some (.ref f4)))
    (l4 : K.lookup f4 = some ⟨oc4, od4, .func (PySem.W.fnOf "write_model" "write_model" (defArgs st_write_model) (defBody st_write_model) (defScope st_write_model) .none kV4 dc4 pm4 an4 cd4 ct4), sl4⟩)
    (c4 : PySem.W.codeIn K cd4 "write_model" = true)
    (k4 : PySem.W.keepIn K (.ref f4) = true)
    (a5 : PySem.W.nsIn K mainGlobals "read_model" = some (some (.ref f5)))
    (l5 : K.lookup f5 = some ⟨oc5, od5, .func (PySem.W.fnOf "read_model" "read_model" (defArgs st_read_model) (defBody st_read_model) (defScope st_read_model) .none kV5 dc5 pm5 an5 cd5 ct5), sl5⟩)
    (c5 : PySem.W.codeIn K cd5 "read_model" = true)
    (k5 : PySem.W.keepIn K (.ref f5) = true)
    (a6 : PySem.W.nsIn K mainGlobals "_law_cell" = some (some (.ref f6)))
    (l6 : K.lookup f6 = some ⟨oc6, od6, .func (PySem.W.fnOf "_law_cell" "_law_cell" (defArgs st_law_cell) (defBody st_law_cell) (defScope st_law_cell) .none kV6 dc6 pm6 an6 cd6 ct6), sl6⟩)
    (c6 : PySem.W.codeIn K cd6 "_law_cell" = true)
    (k6 : PySem.W.keepIn K (.ref f6) = true)
    (a7 : PySem.W.nsIn K mainGlobals "_law_model_text" = some (some (.ref f7)))
    (l7 : K.lookup f7 = some ⟨oc7, od7, .func (PySem.W.fnOf "_law_model_text" "_law_model_text" (defArgs st_law_model_text) (defBody st_law_model_text) (defScope st_law_model_text) .none kV7 dc7 pm7 an7 cd7 ct7), sl7⟩)
    (c7 : PySem.W.codeIn K cd7 "_law_model_text" = true)
    (k7 : PySem.W.keepIn K (.ref f7) = true)
    (a8 : PySem.W.nsIn K mainGlobals "_law_pairs" = some (some (.ref f8)))
    (l8 : K.lookup f8 = some ⟨oc8, od8, .func (PySem.W.fnOf "_law_pairs" "_law_pairs" (defArgs st_law_pairs) (defBody st_law_pairs) (defScope st_law_pairs) .none kV8 dc8 pm8 an8 cd8 ct8), sl8⟩)
    (c8 : PySem.W.codeIn K cd8 "_law_pairs" = true)
    (k8 : PySem.W.keepIn K (.ref f8) = true)
    (a9 : PySem.W.nsIn K mainGlobals "_law_refused" = some (some (.ref f9)))
    (l9 : K.lookup f9 = some ⟨oc9, od9, .func (PySem.W.fnOf "_law_refused" "_law_refused" (defArgs st_law_refused) (defBody st_law_refused) (defScope st_law_refused) .none kV9 dc9 pm9 an9 cd9 ct9), sl9⟩)
    (c9 : PySem.W.codeIn K cd9 "_law_refused" = true)
    (k9 : PySem.W.keepIn K (.ref f9) = true)
    (a10 : PySem.W.nsIn K mainGlobals "law" = some (some (.ref f10)))
    (l10 : K.lookup f10 = some ⟨oc10, od10, .func (PySem.W.fnOf "law" "law" (defArgs st_law) (defBody st_law) (defScope st_law) .none kV10 dc10 pm10 an10 cd10 ct10), sl10⟩)
    (c10 : PySem.W.codeIn K cd10 "law" = true)
    (k10 : PySem.W.keepIn K (.ref f10) = true)
    (a11 : PySem.W.findIn K (.ref C0) "__init__" = some (some (.ref f11)))
    (i11 : PySem.W.isFn K (.ref f11) = true)
    (l11 : K.lookup f11 = some ⟨oc11, od11, .func (PySem.W.fnOf "__init__" "Model.__init__" (defArgs st_Model_init) (defBody st_Model_init) (defScope st_Model_init) .none kV11 dc11 pm11 an11 cd11 ct11), sl11⟩)
    (c11 : PySem.W.codeIn K cd11 "Model.__init__" = true)
    (k11 : PySem.W.keepIn K (.ref f11) = true)
    (a12 : PySem.W.findIn K (.ref C0) "frame" = some (some (.ref f12)))
    (i12 : PySem.W.isFn K (.ref f12) = true)
    (l12 : K.lookup f12 = some ⟨oc12, od12, .func (PySem.W.fnOf "frame" "Model.frame" (defArgs st_Model_frame) (defBody st_Model_frame) (defScope st_Model_frame) .none kV12 dc12 pm12 an12 cd12 ct12), sl12⟩)
    (c12 : PySem.W.codeIn K cd12 "Model.frame" = true)
    (k12 : PySem.W.keepIn K (.ref f12) = true)
    (a13 : PySem.W.findIn K (.ref C0) "true_worlds" = some (some (.ref f13)))
    (i13 : PySem.W.isFn K (.ref f13) = true)
    (l13 : K.lookup f13 = some ⟨oc13, od13, .func (PySem.W.fnOf "true_worlds" "Model.true_worlds" (defArgs st_Model_true_worlds) (defBody st_Model_true_worlds) (defScope st_Model_true_worlds) .none kV13 dc13 pm13 an13 cd13 ct13), sl13⟩)
    (c13 : PySem.W.codeIn K cd13 "Model.true_worlds" = true)
    (k13 : PySem.W.keepIn K (.ref f13) = true)
    (z0 : PySem.W.nsIn K mainGlobals "abs" = some none)
    (z1 : PySem.W.nsIn K mainGlobals "bool" = some none)
    (z2 : PySem.W.nsIn K mainGlobals "enumerate" = some none)
    (z3 : PySem.W.nsIn K mainGlobals "int" = some none)
    (z4 : PySem.W.nsIn K mainGlobals "isinstance" = some none)
    (z5 : PySem.W.nsIn K mainGlobals "len" = some none)
    (z6 : PySem.W.nsIn K mainGlobals "list" = some none)
    (z7 : PySem.W.nsIn K mainGlobals "range" = some none)
    (z8 : PySem.W.nsIn K mainGlobals "set" = some none)
    (z9 : PySem.W.nsIn K mainGlobals "sorted" = some none)
    (z10 : PySem.W.nsIn K mainGlobals "str" = some none)
    (z11 : PySem.W.nsIn K mainGlobals "tuple" = some none)
    (cg0 : PySem.W.nsIn K mainGlobals "LETTERS" = some (some (.str "abcdefghijklmnopqrstuvwxyz" tk0)))
    (cg1 : PySem.W.nsIn K mainGlobals "MAX_DIGITS" = some (some (.int 6 tk1)))
    (cg2 : PySem.W.nsIn K mainGlobals "MAX_NAME" = some (some (.int 12 tk2)))
    (xa0 : PySem.W.nsIn K mainGlobals "InvalidText" = some (some (.ref x0)))
    (xb0 : PySem.W.excIn K x0 [.type "ValueError", .type "Exception", .type "BaseException", .type "object"] "ValueError.__new__" = true)
    (xc0 : PySem.W.keepIn K (.ref x0) = true)
    (xd0 : PySem.W.subIn K (.ref x0) (.type "BaseException") = some true)
    (xe0 : PySem.W.typeIn K (.ref x0) = some (.type "type"))
    (xf0 : PySem.W.findIn K (.ref x0) "__getattribute__" = some (some (.builtin "BaseException.__getattribute__")))
    (xg0 : PySem.W.findIn K (.ref x0) "__getattr__" = some none)
    (xh0 : PySem.W.hasDictIn K x0 = true)
    (xi0 : PySem.W.findIn K (.ref x0) "__class__" = some (some (.builtin "object.__class__")))
    (xj0 : PySem.W.specialIn K (.builtin "object.__class__") "__get__" = some (some (.builtin "getset_descriptor.__get__")))
    (xk0 : PySem.W.takesIn K (.builtin "object.__class__") = some true)
    (xl0 : PySem.W.mroIn K x0 (.type "object") = some true)
    (xa1 : PySem.W.nsIn K mainGlobals "InvalidModel" = some (some (.ref x1)))
    (xb1 : PySem.W.excIn K x1 [.type "ValueError", .type "Exception", .type "BaseException", .type "object"] "ValueError.__new__" = true)
    (xc1 : PySem.W.keepIn K (.ref x1) = true)
    (xd1 : PySem.W.subIn K (.ref x1) (.type "BaseException") = some true)
    (xe1 : PySem.W.typeIn K (.ref x1) = some (.type "type"))
    (xf1 : PySem.W.findIn K (.ref x1) "__getattribute__" = some (some (.builtin "BaseException.__getattribute__")))
    (xg1 : PySem.W.findIn K (.ref x1) "__getattr__" = some none)
    (xh1 : PySem.W.hasDictIn K x1 = true)
    (xi1 : PySem.W.findIn K (.ref x1) "__class__" = some (some (.builtin "object.__class__")))
    (xj1 : PySem.W.specialIn K (.builtin "object.__class__") "__get__" = some (some (.builtin "getset_descriptor.__get__")))
    (xk1 : PySem.W.takesIn K (.builtin "object.__class__") = some true)
    (xl1 : PySem.W.mroIn K x1 (.type "object") = some true)
    (xa2 : PySem.W.nsIn K mainGlobals "ElsewhereError" = some (some (.ref x2)))
    (xd2 : PySem.W.subIn K (.ref x2) (.type "BaseException") = some true)
    (xe2 : PySem.W.typeIn K (.ref x2) = some (.type "type"))
    (xh2 : PySem.W.hasDictIn K x2 = true)
    (xm0_1 : PySem.W.subIn K (.ref x0) (.ref x1) = some false)
    (xo0_1 : (Value.ref x0 == Value.ref x1) = false)
    (xm0_2 : PySem.W.subIn K (.ref x0) (.ref x2) = some true)
    (xo0_2 : (Value.ref x0 == Value.ref x2) = false)
    (xm0_0 : PySem.W.subIn K (.ref x0) (.ref x0) = some true)
    (xo0_0 : (Value.ref x0 == Value.ref x0) = true)
    (xm1_1 : PySem.W.subIn K (.ref x1) (.ref x1) = some true)
    (xo1_1 : (Value.ref x1 == Value.ref x1) = true)
    (xm1_2 : PySem.W.subIn K (.ref x1) (.ref x2) = some true)
    (xo1_2 : (Value.ref x1 == Value.ref x2) = false)
    (xm1_0 : PySem.W.subIn K (.ref x1) (.ref x0) = some false)
    (xo1_0 : (Value.ref x1 == Value.ref x0) = false) :
    ∃ fd : FuncData, (∀ (s : Shared) (u : Value), BindsTo s fd ⟨[u], []⟩ [("_law_script", u)]) ∧ Fun K "law" "law" st_law fa fd ∧ Ad K mg w := by
  have e := hfa.symm.trans (PySem.W.mg_of X G a10)
  cases e
  have F0 := fun_mk (st := st_is_world) l0 c0 k0
  have F1 := fun_mk (st := st_is_frame) l1 c1 k1
  have F2 := fun_mk (st := st_is_name) l2 c2 k2
  have F3 := fun_mk (st := st_number_of) l3 c3 k3
  have F4 := fun_mk (st := st_write_model) l4 c4 k4
  have F5 := fun_mk (st := st_read_model) l5 c5 k5
  have F6 := fun_mk (st := st_law_cell) l6 c6 k6
  have F7 := fun_mk (st := st_law_model_text) l7 c7 k7
  have F8 := fun_mk (st := st_law_pairs) l8 c8 k8
  have F9 := fun_mk (st := st_law_refused) l9 c9 k9
  have F10 := fun_mk (st := st_law) l10 c10 k10
  have F11 := fun_mk (st := st_Model_init) l11 c11 k11
  have F12 := fun_mk (st := st_Model_frame) l12 c12 k12
  have F13 := fun_mk (st := st_Model_true_worlds) l13 c13 k13
  have L0 : Cls K C0 := ⟨kb0, kc0, kd0, ke0⟩
  refine ⟨_, fun s v => .of_eq rfl, F10, {
    bt := { m_abs := PySem.W.mg_none_of X G z0, m_bool := PySem.W.mg_none_of X G z1, m_enumerate := PySem.W.mg_none_of X G z2, m_int := PySem.W.mg_none_of X G z3, m_isinstance := PySem.W.mg_none_of X G z4, m_len := PySem.W.mg_none_of X G z5, m_list := PySem.W.mg_none_of X G z6, m_range := PySem.W.mg_none_of X G z7, m_set := PySem.W.mg_none_of X G z8, m_sorted := PySem.W.mg_none_of X G z9, m_str := PySem.W.mg_none_of X G z10, m_tuple := PySem.W.mg_none_of X G z11, g_LETTERS := gk_text (PySem.W.mg_of X G cg0), g_MAX_DIGITS := gk_int (PySem.W.mg_of X G cg1), g_MAX_NAME := gk_int (PySem.W.mg_of X G cg2), xt := ⟨(by
      intro c hc
      simp only [csL, List.mem_cons, List.not_mem_nil, or_false] at hc
      rcases hc with rfl | rfl
      · exact ⟨⟨_, PySem.W.mg_of X G xa0, xb0, xc0, xd0, xe0⟩, fun A hA => (by
          cases hA.symm.trans (PySem.W.mg_of X G xa0)
          exact ⟨xf0, xg0, xd0, xh0, xi0, xj0, xk0, xl0⟩)⟩
      · exact ⟨⟨_, PySem.W.mg_of X G xa1, xb1, xc1, xd1, xe1⟩, fun A hA => (by
          cases hA.symm.trans (PySem.W.mg_of X G xa1)
          exact ⟨xf1, xg1, xd1, xh1, xi1, xj1, xk1, xl1⟩)⟩
                        ), (by
      intro c hc
      simp only [usL, List.mem_cons, List.not_mem_nil, or_false] at hc
      rcases hc with rfl | rfl | rfl
      · exact ⟨_, PySem.W.mg_of X G xa1⟩
      · exact ⟨_, PySem.W.mg_of X G xa2⟩
      · exact ⟨_, PySem.W.mg_of X G xa0⟩
                        ), (by
      intro c hc u hu A B hA hB
      simp only [csL, List.mem_cons, List.not_mem_nil, or_false] at hc
      simp only [usL, List.mem_cons, List.not_mem_nil, or_false] at hu
      rcases hc with rfl | rfl
      · cases hA.symm.trans (PySem.W.mg_of X G xa0)
        rcases hu with rfl | rfl | rfl
        · cases hB.symm.trans (PySem.W.mg_of X G xa1)
          have z := exm_both xd1 xh1 xe1 xm0_1 xo0_1 (by decide)
          exact ⟨z.1.trans (by decide +kernel), z.2.trans (by decide +kernel)⟩
        · cases hB.symm.trans (PySem.W.mg_of X G xa2)
          have z := exm_both xd2 xh2 xe2 xm0_2 xo0_2 (by decide)
          exact ⟨z.1.trans (by decide +kernel), z.2.trans (by decide +kernel)⟩
        · cases hB.symm.trans (PySem.W.mg_of X G xa0)
          have z := exm_both xd0 xh0 xe0 xm0_0 xo0_0 (by decide)
          exact ⟨z.1.trans (by decide +kernel), z.2.trans (by decide +kernel)⟩
      · cases hA.symm.trans (PySem.W.mg_of X G xa1)
        rcases hu with rfl | rfl | rfl
        · cases hB.symm.trans (PySem.W.mg_of X G xa1)
          have z := exm_both xd1 xh1 xe1 xm1_1 xo1_1 (by decide)
          exact ⟨z.1.trans (by decide +kernel), z.2.trans (by decide +kernel)⟩
        · cases hB.symm.trans (PySem.W.mg_of X G xa2)
          have z := exm_both xd2 xh2 xe2 xm1_2 xo1_2 (by decide)
          exact ⟨z.1.trans (by decide +kernel), z.2.trans (by decide +kernel)⟩
        · cases hB.symm.trans (PySem.W.mg_of X G xa0)
          have z := exm_both xd0 xh0 xe0 xm1_0 xo1_0 (by decide)
          exact ⟨z.1.trans (by decide +kernel), z.2.trans (by decide +kernel)⟩
                        )⟩, k_Model := ⟨C0, PySem.W.mg_of X G ka0, L0, (by
      intro f hf
      simp only [List.mem_cons, List.not_mem_nil, or_false] at hf
      rcases hf with rfl | rfl | rfl
      · exact kh0_0
      · exact kh0_1
      · exact kh0_2
                        )⟩ },
    a_f_is_world := ⟨_, _, PySem.W.mg_of X G a0, F0, F0.binds (ps := ["value", "worlds"]) (fun _ _ _ _ _ _ us hl => match us, hl with | [_, _], _ => rfl)⟩,
    a_f_is_frame := ⟨_, _, PySem.W.mg_of X G a1, F1, F1.binds (ps := ["frame"]) (fun _ _ _ _ _ _ us hl => match us, hl with | [_], _ => rfl)⟩,
    a_f_is_name := ⟨_, _, PySem.W.mg_of X G a2, F2, F2.binds (ps := ["text"]) (fun _ _ _ _ _ _ us hl => match us, hl with | [_], _ => rfl)⟩,
    a_f_number_of := ⟨_, _, PySem.W.mg_of X G a3, F3, F3.binds (ps := ["word", "most"]) (fun _ _ _ _ _ _ us hl => match us, hl with | [_, _], _ => rfl)⟩,
    a_f_write_model := ⟨_, _, PySem.W.mg_of X G a4, F4, F4.binds (ps := ["model"]) (fun _ _ _ _ _ _ us hl => match us, hl with | [_], _ => rfl)⟩,
    a_f_read_model := ⟨_, _, PySem.W.mg_of X G a5, F5, F5.binds (ps := ["text"]) (fun _ _ _ _ _ _ us hl => match us, hl with | [_], _ => rfl)⟩,
    a_f_law_cell := ⟨_, _, PySem.W.mg_of X G a6, F6, F6.binds (ps := ["_law_script", "_law_k"]) (fun _ _ _ _ _ _ us hl => match us, hl with | [_, _], _ => rfl)⟩,
    a_f_law_model_text := ⟨_, _, PySem.W.mg_of X G a7, F7, F7.binds (ps := ["_law_worlds", "_law_pairs_here", "_law_values"]) (fun _ _ _ _ _ _ us hl => match us, hl with | [_, _, _], _ => rfl)⟩,
    a_f_law_pairs := ⟨_, _, PySem.W.mg_of X G a8, F8, F8.binds (ps := ["_law_seen"]) (fun _ _ _ _ _ _ us hl => match us, hl with | [_], _ => rfl)⟩,
    a_f_law_refused := ⟨_, _, PySem.W.mg_of X G a9, F9, F9.binds (ps := ["_law_text"]) (fun _ _ _ _ _ _ us hl => match us, hl with | [_], _ => rfl)⟩,
    a_f_law := ⟨_, _, PySem.W.mg_of X G a10, F10, F10.binds (ps := ["_law_script"]) (fun _ _ _ _ _ _ us hl => match us, hl with | [_], _ => rfl)⟩,
    a_f_Model_init := ⟨C0, _, _, PySem.W.mg_of X G ka0, ⟨kf0, a11, i11, kg0⟩, F11, F11.binds (ps := ["self", "frame", "values"]) (fun _ _ _ _ _ _ us hl => match us, hl with | [_, _, _], _ => rfl)⟩,
    a_f_Model_frame := ⟨C0, _, _, PySem.W.mg_of X G ka0, L0, ⟨a12, i12, k12⟩, F12, F12.binds (ps := ["self"]) (fun _ _ _ _ _ _ us hl => match us, hl with | [_], _ => rfl)⟩,
    a_f_Model_true_worlds := ⟨C0, _, _, PySem.W.mg_of X G ka0, L0, ⟨a13, i13, k13⟩, F13, F13.binds (ps := ["self"]) (fun _ _ _ _ _ _ us hl => match us, hl with | [_], _ => rfl)⟩,
    a_f_Model := ⟨C0, PySem.W.mg_of X G ka0, kg0⟩ }⟩

theorem fin_ok {P : Program} {w : World} {K : PySem.W.Frag} {mg : Str → Option Value} {fa : Addr} (h : ∃ fd : FuncData, (∀ (s : Shared) (u : Value), BindsTo s fd ⟨[u], []⟩ [("_law_script", u)]) ∧ Fun K "law" "law" st_law fa fd ∧ Ad K mg w) :
    ∃ fd : FuncData, (∀ (s : Shared) (u : Value), BindsTo s fd ⟨[u], []⟩ [("_law_script", u)]) ∧ ∀ base : Heap, K.In base → base.Ns mainGlobals mg → FnOk P w K mg base (L2.CX P w) 60 fa fd ["_law_script"] (spF ⟨K, mg, w⟩ (ev 60 .f_law) 1) := by
  obtain ⟨fd, hb, F, T⟩ := h
  exact ⟨fd, hb, fun base _ _ => ok_law T.bt (all_ok T 59) F⟩
end K
namespace K
open PySem PySem.Spec L2 Fx
theorem e_world {n : Nat} (h : 0 < n) : WorldSpec (ev n .f_is_world) := by
  obtain ⟨m, rfl⟩ : ∃ m, n = m + 1 := ⟨n - 1, by omega⟩
  exact world_ok
theorem e_frame {n : Nat} (h : 1 < n) : FrameSpec (ev n .f_is_frame) := by
  obtain ⟨m, rfl⟩ : ∃ m, n = m + 1 := ⟨n - 1, by omega⟩
  exact frame_ok (e_world (by omega))
theorem e_fr {A : Mo} {n : Nat} (h : 0 < n) : FrSpec A (ev n .f_Model_frame) := by
  obtain ⟨m, rfl⟩ : ∃ m, n = m + 1 := ⟨n - 1, by omega⟩
  exact fr_ok
theorem e_tw {A : Mo} (hA : A.Good) {n : Nat} (h : 0 < n) : TwSpec A (ev n .f_Model_true_worlds) := by
  obtain ⟨m, rfl⟩ : ∃ m, n = m + 1 := ⟨n - 1, by omega⟩
  exact tw_ok hA
/-! ### the tokens of a text -/
abbrev cp (x : Str) : List Nat := x.cps.toList
abbrev mkS (l : List Nat) : Str := ⟨l.toArray⟩
theorem cp_len (x : Str) : (cp x).length = x.length := by simp [Str.length]
theorem mk_cp (x : Str) : mkS (cp x) = x := by
  obtain ⟨⟨l⟩⟩ := x
  rfl
theorem cp_inj {x y : Str} (h : cp x = cp y) : x = y := by rw [← mk_cp x, ← mk_cp y, h]
theorem cp_app (x y : Str) : cp (x ++ y) = cp x ++ cp y := by
  show (x.cps ++ y.cps).toList = _
  exact Array.toList_append
def leS : Str := "abcdefghijklmnopqrstuvwxyz"
def alS : Str := leS ++ "0123456789"
def alB (c : Nat) : Bool := decide (c ∈ cp alS)
def leB (c : Nat) : Bool := decide (c ∈ cp leS)
def SG : List Str := ["<->", "->", "[]", "<>", "F", "T", "~", "&", "|", "(", ")"]
/-- a name's signs -/
def NameL (x : List Nat) : Prop := x.length ≤ 12 ∧ (∀ c ∈ x, alB c = true) ∧ ∃ c r, x = c :: r ∧ leB c = true
inductive Lx : List Nat → List Str → Prop where
  | nil : Lx [] []
  | sp {l : List Nat} {ws : List Str} : Lx l ws → Lx (32 :: l) ws
  | nm {x l : List Nat} {ws : List Str} : NameL x → (∀ c r, l = c :: r → alB c = false) → Lx l ws → Lx (x ++ l) (mkS x :: ws)
  | sg {s : Str} {l : List Nat} {ws : List Str} : s ∈ SG → Lx l ws → Lx (cp s ++ l) (s :: ws)
section
variable {ro w : List D} {X : Str}
theorem ix_cp {i c : Nat} (hX : X.length ≤ 16777216) (h : (cp X)[i]? = some c) : gIx (.str X) (.int (i : Int)) ro w = .ok (.str (mkS [c])) w := by
  have hs : sizeLine = 16777216 := rfl
  unfold gIx
  simp only [hs, if_pos hX, atI_some h]
theorem in_le {c : Nat} : gNotIn (.str (mkS [c])) (.str leS) ro w = .ok (.bl (!leB c)) w := rfl
theorem add_al {w : List D} : gAdd g_LETTERS (.str "0123456789") ro w = .ok (.str alS) w := by
  show gAdd (.str leS) (.str "0123456789") ro w = _
  show (if leS.length + ("0123456789" : Str).length ≤ sizeLine then Out.ok (D.str (leS ++ "0123456789")) w else .no) = _
  rw [if_pos (by decide)]
  try rfl
theorem len_X (hX : X.length ≤ 16777216) : gLen (.str X) ro w = .ok (.int (X.length : Nat)) w := by
  have hs : sizeLine = 16777216 := rfl
  rw [len_str, hs, if_pos hX]
end
section
variable {n : Nat} {ro w : List D} {X : Str}
theorem str_ok {x : Str} (h : ∀ c ∈ cp x, c < 1114112) : PyData.strOk x = true := by
  unfold PyData.strOk
  rw [← Array.all_toList, List.all_eq_true]
  exact fun c hc => decide_eq_true (h c hc)
theorem e_isname {x : List Nat} (hx : NameL x) : ev (n + 1) .f_is_name [.str (mkS x)] ro w = .ok (.bl true) w := by
  obtain ⟨h12, hal, c, r, rfl, hc⟩ := hx
  have hl : (mkS (c :: r)).length = r.length + 1 := by rw [← cp_len]; rfl
  have hX : (mkS (c :: r)).length ≤ 16777216 := by
    simp only [List.length_cons] at h12
    omega
  have ln := len_X (ro := ro) (w := w) hX
  have ix : gIx (.str (mkS (c :: r))) (.int 0) ro w = .ok (.str (mkS [c])) w := ix_cp (i := 0) hX rfl
  have nl : gNotIn (.str (mkS [c])) g_LETTERS ro w = .ok (.bl false) w := by
    have : gNotIn (.str (mkS [c])) (.str leS) ro w = .ok (.bl (!leB c)) w := in_le
    rw [hc] at this
    exact this
  have sX : see ro w (.str (mkS (c :: r))) = .str (mkS (c :: r)) := rfl
  have sM : see ro w g_MAX_NAME = g_MAX_NAME := rfl
  have sL : see ro w g_LETTERS = g_LETTERS := rfl
  rw [q_is_name, x_def]
  simp only [List.length_cons, List.length_nil, Nat.zero_add, Nat.reduceAdd, if_true, List.map_cons, List.map_nil, Nat.reduceSub, List.replicate, List.cons_append, List.nil_append, List.append_nil]
  unfold b_is_name
  have t1 : cNotT (cTest (cChain gLe gLe (cK (.int 1)) (cCall (one gLen) (cArgs [cVar 0])) (cK g_MAX_NAME))) [some (.str (mkS (c :: r))), none] ro w = .ok false w := by
    have q1 : gLe (.int 1) (.int (((mkS (c :: r)).length : Nat) : Int)) ro w = .ok (.bl true) w := by
      rw [hl, le_int]
      congr 2
      exact decide_eq_true (by omega)
    have q2 : gLe (.int (((mkS (c :: r)).length : Nat) : Int)) g_MAX_NAME ro w = .ok (.bl true) w := by
      show gLe (.int (((mkS (c :: r)).length : Nat) : Int)) (.int 12) ro w = _
      rw [hl, le_int]
      congr 2
      simp only [List.length_cons] at h12
      exact decide_eq_true (by omega)
    rw [x_notT, x_test, x_chain]
    simp only [x_k, an_ok, x_call, x_args, x_args0, x_var, List.getElem?_cons_zero, ofO_ss, x_one, sX, ln, see_int, q1, sM, q2, bool_bl]
    rfl
  rw [x_seq, x_ifS, x_orT, t1, an_ok, if_neg Bool.false_ne_true]
  have t2 : cTest (cBin gNotIn (cBin gIx (cVar 0) (cK (.int 0))) (cK g_LETTERS)) [some (.str (mkS (c :: r))), none] ro w = .ok false w := by
    simp only [x_test, x_bin, x_var, x_k, List.getElem?_cons_zero, ofO_ss, an_ok, sX, see_int, ix, see_str, sL, nl, bool_bl]
  rw [t2, st_ok, if_neg Bool.false_ne_true, x_nil, oan_nx, x_ret]
  have cm : cComp (.nm 1) [1] (cSigns (cVar 0)) (cTest (cBin gNotIn (cVar 1) (cBin gAdd (cK g_LETTERS) (cK (.str "0123456789"))))) (cVar 1) kStill [some (.str (mkS (c :: r))), none] ro w = .ok (.lst []) w := by
    have it : cSigns (cVar 0) [some (.str (mkS (c :: r))), none] ro w = .ok ((c :: r).map fun c => .str (mkS [c])) w := rfl
    have cf := comp_filt (k := 1) (env := [some (.str (mkS (c :: r))), none]) (ro := ro) (w := w) (ta := cTest (cBin gNotIn (cVar 1) (cBin gAdd (cK g_LETTERS) (cK (.str "0123456789"))))) (fa := cVar 1) (h := fun c : Nat => D.str (mkS [c])) (g := fun c => D.str (mkS [c])) (p := fun _ => false) (l := c :: r)
      (fun a ha => by
        have al := hal a ha
        have ni : gNotIn (.str (mkS [a])) (.str alS) ro w = .ok (.bl (!alB a)) w := rfl
        rw [al] at ni
        simp only [List.set_cons_succ, List.set_cons_zero, x_test, x_bin, x_var, x_k, List.getElem?_cons_zero, List.getElem?_cons_succ, ofO_ss, an_ok, sL, see_str, add_al, ni, bool_bl]
        rfl)
      (fun a _ h => by cases h)
    have sz : ((c :: r).map fun c => D.str (mkS [c])).length ≤ sizeLine := by
      have hs : sizeLine = 16777216 := rfl
      rw [List.length_map]
      omega
    rw [x_comp, it, an_ok, if_pos sz]
    rw [show wipeE [some (.str (mkS (c :: r))), none] [1] = [some (.str (mkS (c :: r))), none] from rfl, cf]
    simp only [an_ok, x_still]
    rw [List.filter_eq_nil_iff.mpr (by simp)]
    rfl
  have eq : gEq (.lst []) (.lst []) ro w = .ok (.bl true) w := by
    rw [eq_eqo (eqo_of rfl rfl (by decide)) (eqo_of rfl rfl (by decide))]
    simp
  rw [x_bin, cm, an_ok, x_lst, x_args0, an_ok, an_ok]
  simp only [see_lst, eq, st_ok, fin_rt]
/-! the loops of the lexer -/
abbrev tE (X : Str) (k at' : Nat) (e3 e4 : Option D) : Fx.Env := [some (.str X), some (.ref k), some (.int (at' : Int)), e3, e4, none]
end
/-! ### texts of models -/
theorem mk_app (a b : List Nat) : mkS a ++ mkS b = mkS (a ++ b) := cp_inj (by rw [cp_app])
theorem mk_len (a : List Nat) : (mkS a).length = a.length := by rw [← cp_len]
def dg (k : Nat) : List Nat := [48 + k]
theorem dg_txt {k : Nat} (h : k < 10) : (k : Int).natAbs.log2 < 1920 ∧ Str.ofString (toString (k : Int)) = mkS (dg k) := by
  have key : ∀ k < 10, ((k : Nat) : Int).natAbs.log2 < 1920 ∧ Str.ofString (toString ((k : Nat) : Int)) = mkS (dg k) := by decide +kernel
  exact key k h
section
variable {n : Nat} {ro w : List D} {env : Fx.Env}
theorem str_dg {k : Nat} (h : k < 10) : gStrI (.int (k : Nat)) ro w = .ok (.str (mkS (dg k))) w := by
  rw [strI_ok (dg_txt h).1, (dg_txt h).2]
theorem fmt_dg {f : EF} {k : Nat} (h : k < 10) (hf : f env ro w = .ok (.int (k : Nat)) w) : cFmt f env ro w = .ok (.str (mkS (dg k))) w := by
  rw [x_fmt, hf, an_ok]
  show (if (k : Int).natAbs.log2 < 1920 then Out.ok (D.str (Str.ofString (toString (k : Int)))) w else .no) = _
  rw [if_pos (dg_txt h).1, (dg_txt h).2]
theorem catM {a b : List Nat} (h : a.length + b.length ≤ 1000000) : gAdd (.str (mkS a)) (.str (mkS b)) ro w = .ok (.str (mkS (a ++ b))) w := by
  have hs : sizeLine = 16777216 := rfl
  show (if (mkS a).length + (mkS b).length ≤ sizeLine then Out.ok (D.str (mkS a ++ mkS b)) w else .no) = _
  rw [if_pos (by rw [mk_len, mk_len]; omega), mk_app]
end
/-- a line's words -/
def lnC (ws : List (List Nat)) : List Nat := TL.joinL [32] ws
def mtx (L : List (List (List Nat))) : List Nat := (L.map fun ws => lnC ws ++ [10]).flatten
theorem mtx_app (L M : List (List (List Nat))) : mtx (L ++ M) = mtx L ++ mtx M := by
  unfold mtx
  rw [List.map_append, List.flatten_append]
theorem mtx_one (ws : List (List Nat)) : mtx [ws] = lnC ws ++ [10] := by simp [mtx]
def wdW (n : Nat) : List (List Nat) := [cp "worlds", dg n]
def wdS (p : Nat × Nat) : List (List Nat) := [cp "sees", dg p.1, dg p.2]
def wdT (p : Str × List Nat) : List (List Nat) := cp "true" :: cp p.1 :: p.2.map dg
def mws (n : Nat) (l : List (Nat × Nat)) (kv : List (Str × List Nat)) : List (List (List Nat)) := wdW n :: (l.map wdS ++ kv.map wdT)
/-- a dict's names in order -/
def sortKV (v : List (Str × List Nat)) : List (Str × List Nat) := (srtT (v.map (·.1))).map fun x => (x, (v.lookup x).getD [])
theorem join_ln : ∀ (x : List Nat) (ws : List (List Nat)), TL.joinL [32] (x :: ws) = x ++ (ws.map fun y => 32 :: y).flatten
  | x, [] => by simp [TL.joinL]
  | x, y :: ws => by
    show x ++ ([32] ++ TL.joinL [32] (y :: ws)) = _
    rw [join_ln y ws]
    simp
theorem lnC_len (ws : List (List Nat)) {m : Nat} (h : ∀ x ∈ ws, x.length ≤ m) : (lnC ws).length ≤ (m + 1) * ws.length := by
  unfold lnC
  cases ws with
  | nil => simp [TL.joinL]
  | cons x ws =>
    rw [join_ln, List.length_append]
    have h0 := h x (by simp)
    have key : ∀ ws : List (List Nat), (∀ x ∈ ws, x.length ≤ m) → ((ws.map fun y => 32 :: y).flatten).length ≤ (m + 1) * ws.length := fun ws => by
      induction ws with
      | nil => simp
      | cons y ws ih =>
        intro h
        have := ih fun z hz => h z (by simp [hz])
        have h1 := h y (by simp)
        simp only [List.map_cons, List.flatten_cons, List.length_append, List.length_cons]
        rw [Nat.mul_add, Nat.mul_one]
        omega
    have := key ws fun y hy => h y (by simp [hy])
    rw [List.length_cons, Nat.mul_add, Nat.mul_one]
    omega
theorem mtx_len (L : List (List (List Nat))) {m k : Nat} (h : ∀ ws ∈ L, (∀ x ∈ ws, x.length ≤ m) ∧ ws.length ≤ k) : (mtx L).length ≤ ((m + 1) * k + 1) * L.length := by
  induction L with
  | nil => simp [mtx]
  | cons ws L ih =>
    have h0 := h ws (by simp)
    have h1 := lnC_len ws h0.1
    have h2 : (m + 1) * ws.length ≤ (m + 1) * k := Nat.mul_le_mul (Nat.le_refl _) h0.2
    have ih' := ih fun z hz => h z (by simp [hz])
    have e : mtx (ws :: L) = (lnC ws ++ [10]) ++ mtx L := rfl
    have l1 : ([10] : List Nat).length = 1 := rfl
    rw [e, List.length_append, List.length_append, l1, List.length_cons, Nat.mul_add, Nat.mul_one]
    omega
/-- what a text of a model asks for -/
structure KvOk (n : Nat) (kv : List (Str × List Nat)) : Prop where
  nm : ∀ p ∈ kv, NameL (cp p.1)
  rg : ∀ p ∈ kv, (∀ i ∈ p.2, i < n) ∧ p.2.length ≤ 9
  fw : kv.length ≤ 10
section
variable {n : Nat} {R : List D}
theorem js_all {env : Fx.Env} {w : List D} : ∀ (fl : List (EF × List Nat)) (acc : List Nat), (∀ p ∈ fl, p.1 env R w = .ok (.str (mkS p.2)) w) → acc.length + ((fl.map (·.2)).flatten).length ≤ 1000000 → jsF (fl.map (·.1)) (mkS acc) env R w = .ok (.str (mkS (acc ++ (fl.map (·.2)).flatten))) w
  | [], acc, _, _ => by simp [js_nil]
  | (f, l) :: fl, acc, h, hl => by
    have hs : sizeLine = 16777216 := rfl
    simp only [List.map_cons, List.flatten_cons, List.length_append] at hl
    have h0 : f env R w = .ok (.str (mkS l)) w := h (f, l) (by simp)
    have e : jsF (((f, l) :: fl).map (·.1)) (mkS acc) env R w = jsF (fl.map (·.1)) (mkS (acc ++ l)) env R w := by
      rw [List.map_cons, js_cons h0 (by rw [mk_app, mk_len, List.length_append]; omega), mk_app]
    rw [e, js_all fl (acc ++ l) (fun p hp => h p (by simp [hp])) (by rw [List.length_append]; omega)]
    simp
theorem cJs_all {env : Fx.Env} {w : List D} (fl : List (EF × List Nat)) (h : ∀ p ∈ fl, p.1 env R w = .ok (.str (mkS p.2)) w) (hl : ((fl.map (·.2)).flatten).length ≤ 1000000) : cJs (fl.map (·.1)) env R w = .ok (.str (mkS (fl.map (·.2)).flatten)) w := by
  have := js_all (R := R) fl [] h (by simpa using hl)
  exact this
theorem k_mk {x : Str} {env : Fx.Env} {w : List D} : cK (.str x) env R w = .ok (.str (mkS (cp x))) w := by rw [mk_cp]; rfl
theorem l_sees (p : Nat × Nat) : lnC (wdS p) ++ [10] = cp "sees " ++ (dg p.1 ++ (cp " " ++ (dg p.2 ++ cp "\n"))) := by
  have e : cp "sees " = cp "sees" ++ [32] := by decide
  have e2 : cp " " = [32] := by decide
  have e3 : cp "\n" = [10] := by decide
  rw [e, e2, e3]
  simp [lnC, wdS, TL.joinL, dg]
theorem l_worlds (k : Nat) : lnC (wdW k) ++ [10] = cp "worlds " ++ (dg k ++ cp "\n") := by
  have e : cp "worlds " = cp "worlds" ++ [32] := by decide
  have e3 : cp "\n" = [10] := by decide
  rw [e, e3]
  simp [lnC, wdW, TL.joinL, dg]
theorem l_true (p : Str × List Nat) : lnC (wdT p) ++ [10] = cp "true " ++ (TL.joinL [32] (cp p.1 :: p.2.map dg) ++ cp "\n") := by
  have e : cp "true " = cp "true" ++ [32] := by decide
  have e3 : cp "\n" = [10] := by decide
  rw [e, e3]
  unfold lnC wdT
  rw [join_ln, join_ln]
  simp
/-! what the model is written as -/
abbrev wE (M : D) (T : List Nat) (e2 e3 e4 e5 : Option D) : Fx.Env := [some M, some (.str (mkS T)), e2, e3, e4, e5]
def wrS : SF := sSet 1 (cBin gAdd (cVar 1) (cJs [cK (.str "sees "), cFmt (cVar 2), cK (.str " "), cFmt (cVar 3), cK (.str "\n")]))
def wrT : SF := sSet 1 (cBin gAdd (cBin gAdd (cBin gAdd (cVar 1) (cK (.str "true "))) (cJoin (cK (.str " ")) (cBin gAdd (cLst (cArgs [cVar 5])) (cComp (.nm 3) [3] (cSeq (cDGet (cVar 4) (cVar 5))) (cYes) (cCall (one gStrI) (cArgs [cVar 3])) kStill)))) (cK (.str "\n")))
theorem sees_len (p : Nat × Nat) : (lnC (wdS p) ++ [10]).length = 9 := by
  rw [l_sees]
  have e1 : (cp "sees ").length = 5 := by decide
  have e2 : (cp " ").length = 1 := by decide
  have e3 : (cp "\n").length = 1 := by decide
  simp only [List.length_append, e1, e2, e3, dg, List.length_cons, List.length_nil]
theorem wr_pairs {M : D} : ∀ (l : List (Nat × Nat)) (T : List Nat) (e2 e3 : Option D), (∀ p ∈ l, p.1 < 10 ∧ p.2 < 10) → T.length + 9 * l.length ≤ 900000 → ∃ e2' e3', forL (.tp [2, 3]) wrS (l.map prD) (wE M T e2 e3 none none) R [] = .go .nx (wE M (T ++ mtx (l.map wdS)) e2' e3' none none) []
  | [], T, e2, e3, _, _ => ⟨e2, e3, by simp [mtx]⟩
  | p :: l, T, e2, e3, h, hl => by
    simp only [List.length_cons] at hl
    have hp := h p (by simp)
    have sl := sees_len p
    obtain ⟨e2', e3', ih⟩ := wr_pairs (M := M) l (T ++ (lnC (wdS p) ++ [10])) (some (.int p.1)) (some (.int p.2)) (fun q hq => h q (by simp [hq])) (by rw [List.length_append, sl]; omega)
    refine ⟨e2', e3', ?_⟩
    rw [List.map_cons, show prD p = .tup [.int p.1, .int p.2] from rfl, for_tp2]
    have ee : ((wE M T e2 e3 none none).set 2 (some (.int p.1))).set 3 (some (.int p.2)) = wE M T (some (.int p.1)) (some (.int p.2)) none none := rfl
    have j := cJs_all (R := R) (env := wE M T (some (.int p.1)) (some (.int p.2)) none none) (w := []) [(cK (.str "sees "), cp "sees "), (cFmt (cVar 2), dg p.1), (cK (.str " "), cp " "), (cFmt (cVar 3), dg p.2), (cK (.str "\n"), cp "\n")] (fun q hq => by
      simp only [List.mem_cons, List.not_mem_nil, or_false] at hq
      rcases hq with rfl | rfl | rfl | rfl | rfl
      · exact k_mk (x := "sees ") (env := wE M T (some (.int p.1)) (some (.int p.2)) none none) (R := R) (w := [])
      · exact fmt_dg (f := cVar 2) (env := wE M T (some (.int p.1)) (some (.int p.2)) none none) (ro := R) (w := []) hp.1 rfl
      · exact k_mk (x := " ") (env := wE M T (some (.int p.1)) (some (.int p.2)) none none) (R := R) (w := [])
      · exact fmt_dg (f := cVar 3) (env := wE M T (some (.int p.1)) (some (.int p.2)) none none) (ro := R) (w := []) hp.2 rfl
      · exact k_mk (x := "\n") (env := wE M T (some (.int p.1)) (some (.int p.2)) none none) (R := R) (w := [])) (by
      simp only [List.map_cons, List.map_nil, List.flatten_cons, List.flatten_nil, List.append_nil]
      rw [← l_sees, sl]
      decide)
    have j' : cJs [cK (.str "sees "), cFmt (cVar 2), cK (.str " "), cFmt (cVar 3), cK (.str "\n")] (wE M T (some (.int p.1)) (some (.int p.2)) none none) R [] = .ok (.str (mkS (lnC (wdS p) ++ [10]))) [] := by
      rw [l_sees]
      refine j.trans ?_
      simp
    have b : wrS (wE M T (some (.int p.1)) (some (.int p.2)) none none) R [] = .go .nx (wE M (T ++ (lnC (wdS p) ++ [10])) (some (.int p.1)) (some (.int p.2)) none none) [] := by
      have c := catM (ro := R) (w := []) (a := T) (b := lnC (wdS p) ++ [10]) (by rw [sl]; omega)
      unfold wrS
      rw [x_set, x_bin]
      have v1 : cVar 1 (wE M T (some (.int p.1)) (some (.int p.2)) none none) R [] = .ok (.str (mkS T)) [] := rfl
      rw [v1, an_ok, j', an_ok, see_str, see_str, c, st_ok]
      rfl
    rw [ee, b, tn_nx, ih]
    congr 2
    have : mtx ((p :: l).map wdS) = (lnC (wdS p) ++ [10]) ++ mtx (l.map wdS) := rfl
    rw [this, List.append_assoc]
theorem dg_comp {env : Fx.Env} {w : List D} {l : List Nat} {k : Nat} {it : Fx.Env → M (List D)} (hk : k < env.length) (hl : l.length ≤ 1000) (h10 : ∀ i ∈ l, i < 10) (hi : it env R w = .ok (l.map nD) w) : cComp (.nm k) [k] it (cYes) (cCall (one gStrI) (cArgs [cVar k])) kStill env R w = .ok (.lst ((l.map fun i => mkS (dg i)).map .str)) w := by
  have hs : sizeLine = 16777216 := rfl
  have c := comp_all (k := k) (env := wipeE env [k]) (ro := R) (w := w) (fa := cCall (one gStrI) (cArgs [cVar k])) (h := nD) (g := fun i => D.str (mkS (dg i))) (l := l) fun i hi => by
    have hg : ((wipeE env [k]).set k (some (nD i)))[k]? = some (some (nD i)) := by
      rw [List.getElem?_set_self]
      show k < (env.set k none).length
      rw [List.length_set]
      exact hk
    simp only [x_call, x_args, x_args0, x_var, hg, ofO_ss, an_ok, x_one]
    exact str_dg (h10 i hi)
  rw [x_comp, hi, an_ok, if_pos (by rw [List.length_map]; omega), c, an_ok, x_still, List.map_map]
  rfl
theorem cp_join (ys : List Str) : cp (Txt.join " " ys) = TL.joinL [32] (ys.map cp) := by
  rw [TL.join_eq]
  have := TL.tl_join " " ys
  have e : TL.tl " " = [32] := by decide
  rw [e] at this
  exact this
theorem join_words {x : Str} {l : List Nat} {w : List D} (hx : (cp x).length ≤ 12) (hl : l.length ≤ 1000) : gJoin " " (.lst ((x :: l.map fun i => mkS (dg i)).map .str)) R w = .ok (.str (mkS (TL.joinL [32] (cp x :: l.map dg)))) w := by
  have sm : ∀ l : List Nat, ((l.map fun i => mkS (dg i)).map (·.length)).sum = l.length := fun l => by
    induction l with
    | nil => rfl
    | cons i l ih =>
      have : (mkS (dg i)).length = 1 := rfl
      simp only [List.map_cons, List.sum_cons, ih, this, List.length_cons]
      omega
  have e1 : (" " : Str).length = 1 := by decide
  have lx := cp_len x
  rw [join_lst (by rw [List.map_cons, List.sum_cons, sm, e1, List.length_cons, List.length_map]; omega)]
  congr 2
  apply cp_inj
  rw [cp_join]
  show _ = TL.joinL [32] (cp x :: l.map dg)
  rw [List.map_cons, List.map_map]
  rfl
theorem wr_name {M : D} {v : List (Str × List Nat)} {p : Str × List Nat} {T : List Nat} {e2 e3 e5 : Option D} (hd : dget (vks v) (vxs v) (.str p.1) = some (nsD p.2)) (hx : (cp p.1).length ≤ 12) (hl : p.2.length ≤ 100) (h10 : ∀ i ∈ p.2, i < 10) (hT : T.length ≤ 900000) :
    wrT (wE M T e2 e3 (some (vD v)) (some (.str p.1))) R [] = .go .nx (wE M (T ++ (lnC (wdT p) ++ [10])) e2 e3 (some (vD v)) (some (.str p.1))) [] := by
  have sv : ∀ w, see R w (vD v) = vD v := fun _ => rfl
  have dg1 : cDGet (cVar 4) (cVar 5) (wE M T e2 e3 (some (vD v)) (some (.str p.1))) R [] = .ok (nsD p.2) [] := by
    have q : ∀ w, gDGet (vD v) (.str p.1) R w = .ok (nsD p.2) w := fun w => dget_eq (ro := R) (w := w) (ks := vks v) (xs := vxs v) (k := .str p.1) rfl hd
    simp only [wE, x_dget, x_var, List.getElem?_cons_zero, List.getElem?_cons_succ, ofO_ss, an_ok, sv, q]
  have it : cSeq (cDGet (cVar 4) (cVar 5)) (wE M T e2 e3 (some (vD v)) (some (.str p.1))) R [] = .ok (p.2.map nD) [] := by
    rw [x_seqI, dg1, an_ok]
    rfl
  have cm := dg_comp (R := R) (w := []) (env := wE M T e2 e3 (some (vD v)) (some (.str p.1))) (k := 3) (by show 3 < 6; decide) (by omega) h10 it
  have jw := join_words (R := R) (w := []) hx (l := p.2) (by omega)
  have a1 : cBin gAdd (cLst (cArgs [cVar 5])) (cComp (.nm 3) [3] (cSeq (cDGet (cVar 4) (cVar 5))) (cYes) (cCall (one gStrI) (cArgs [cVar 3])) kStill) (wE M T e2 e3 (some (vD v)) (some (.str p.1))) R [] = .ok (.lst ((p.1 :: p.2.map fun i => mkS (dg i)).map .str)) [] := by
    have hs : sizeLine = 16777216 := rfl
    have l5 : cLst (cArgs [cVar 5]) (wE M T e2 e3 (some (vD v)) (some (.str p.1))) R [] = .ok (.lst [.str p.1]) [] := rfl
    rw [x_bin, l5, an_ok, cm, an_ok, see_lst, see_lst, add_lst, if_pos (by simp only [List.length_map, List.length_cons, List.length_nil]; omega)]
    rfl
  have a2 : cJoin (cK (.str " ")) (cBin gAdd (cLst (cArgs [cVar 5])) (cComp (.nm 3) [3] (cSeq (cDGet (cVar 4) (cVar 5))) (cYes) (cCall (one gStrI) (cArgs [cVar 3])) kStill)) (wE M T e2 e3 (some (vD v)) (some (.str p.1))) R [] = .ok (.str (mkS (TL.joinL [32] (cp p.1 :: p.2.map dg)))) [] := by
    rw [x_join (x := " ") rfl, a1, an_ok, see_lst, jw]
  have jl : (TL.joinL [32] (cp p.1 :: p.2.map dg)).length ≤ 1400 := by
    have := lnC_len (cp p.1 :: p.2.map dg) (m := 12) (fun x h => by
      rcases List.mem_cons.mp h with rfl | h
      · exact hx
      · obtain ⟨i, _, rfl⟩ := List.mem_map.mp h
        show 1 ≤ 12
        omega)
    unfold lnC at this
    rw [List.length_cons, List.length_map] at this
    omega
  have t5 : (cp "true ").length = 5 := by decide
  have n1 : (cp "\n").length = 1 := by decide
  have c1 := catM (ro := R) (w := []) (a := T) (b := cp "true ") (by omega)
  have c2 := catM (ro := R) (w := []) (a := T ++ cp "true ") (b := TL.joinL [32] (cp p.1 :: p.2.map dg)) (by rw [List.length_append]; omega)
  have c3 := catM (ro := R) (w := []) (a := T ++ cp "true " ++ TL.joinL [32] (cp p.1 :: p.2.map dg)) (b := cp "\n") (by rw [List.length_append, List.length_append]; omega)
  have v1 : cVar 1 (wE M T e2 e3 (some (vD v)) (some (.str p.1))) R [] = .ok (.str (mkS T)) [] := rfl
  unfold wrT
  rw [x_set, x_bin, x_bin, x_bin, v1, an_ok, k_mk, an_ok, see_str, see_str, c1, an_ok, a2, an_ok, see_str, see_str, c2, an_ok, k_mk, an_ok, see_str, see_str, c3, st_ok]
  rw [l_true]
  simp only [List.append_assoc]
  rfl
theorem wr_names {M : D} {v : List (Str × List Nat)} : ∀ (kv : List (Str × List Nat)) (T : List Nat) (e2 e3 e5 : Option D), (∀ p ∈ kv, dget (vks v) (vxs v) (.str p.1) = some (nsD p.2) ∧ (cp p.1).length ≤ 12 ∧ p.2.length ≤ 100 ∧ ∀ i ∈ p.2, i < 10) → T.length + 2000 * kv.length ≤ 900000 →
    ∃ e5', forL (.nm 5) wrT (kv.map fun p => .str p.1) (wE M T e2 e3 (some (vD v)) e5) R [] = .go .nx (wE M (T ++ mtx (kv.map wdT)) e2 e3 (some (vD v)) e5') []
  | [], T, e2, e3, e5, _, _ => ⟨e5, by simp [mtx]⟩
  | p :: kv, T, e2, e3, e5, h, hl => by
    simp only [List.length_cons] at hl
    obtain ⟨h1, h2, h3, h4⟩ := h p (by simp)
    have ll : (lnC (wdT p) ++ [10]).length ≤ 2000 := by
      have := lnC_len (wdT p) (m := 12) (fun x h => by
        rcases List.mem_cons.mp h with rfl | h
        · decide
        · rcases List.mem_cons.mp h with rfl | h
          · exact h2
          · obtain ⟨i, _, rfl⟩ := List.mem_map.mp h
            show 1 ≤ 12
            omega)
      have l1 : ([10] : List Nat).length = 1 := rfl
      rw [List.length_append, l1]
      simp only [wdT, List.length_cons, List.length_map] at this
      have e : (lnC (wdT p)).length = (lnC (cp "true" :: cp p.1 :: p.2.map dg)).length := rfl
      omega
    obtain ⟨e5', ih⟩ := wr_names (M := M) kv (T ++ (lnC (wdT p) ++ [10])) e2 e3 (some (.str p.1)) (fun q hq => h q (by simp [hq])) (by rw [List.length_append]; omega)
    refine ⟨e5', ?_⟩
    rw [List.map_cons, for_nm]
    have ee : (wE M T e2 e3 (some (vD v)) e5).set 5 (some (.str p.1)) = wE M T e2 e3 (some (vD v)) (some (.str p.1)) := rfl
    rw [ee, wr_name (e5 := none) h1 h2 h3 h4 (by omega), tn_nx, ih]
    congr 2
    have : mtx ((p :: kv).map wdT) = (lnC (wdT p) ++ [10]) ++ mtx (kv.map wdT) := rfl
    rw [this, List.append_assoc]
end
theorem lk_mem : ∀ {v : List (Str × List Nat)} {p : Str × List Nat}, (v.map (·.1)).Nodup → p ∈ v → v.lookup p.1 = some p.2
  | [], p, _, h => by cases h
  | q :: v, p, nd, h => by
    rw [List.map_cons, List.nodup_cons] at nd
    rcases List.mem_cons.mp h with rfl | h
    · simp [List.lookup]
    · have ne : p.1 ≠ q.1 := fun e => nd.1 (by rw [← e]; exact List.mem_map_of_mem h)
      have b : (p.1 == q.1) = false := by
        cases z : p.1 == q.1 with
        | false => rfl
        | true => exact absurd (eq_of_beq z) ne
      rw [List.lookup, b]
      exact lk_mem nd.2 h
theorem names_map {v : List (Str × List Nat)} (nd : (v.map (·.1)).Nodup) : (v.map (·.1)).map (fun x => (x, (v.lookup x).getD [])) = v := by
  rw [List.map_map]
  refine (List.map_congr_left (g := id) fun p hp => ?_).trans (List.map_id _)
  show (p.1, (v.lookup p.1).getD []) = p
  rw [lk_mem nd hp]
  rfl
theorem sortKV_perm {v : List (Str × List Nat)} (nd : (v.map (·.1)).Nodup) : (sortKV v).Perm v := by
  have h := (srtT_perm (v.map (·.1))).map fun x => (x, (v.lookup x).getD [])
  rw [names_map nd] at h
  exact h
theorem sortKV_names (v : List (Str × List Nat)) : (sortKV v).map (·.1) = srtT (v.map (·.1)) := by
  unfold sortKV
  rw [List.map_map]
  exact List.map_id _
theorem sortKV_id {v : List (Str × List Nat)} (nd : (v.map (·.1)).Nodup) (hs : (v.map (·.1)).Pairwise fun a b => leT a b = true) : sortKV v = v := by
  unfold sortKV
  rw [srtT_one hs (List.Perm.refl _), names_map nd]
theorem lk_perm {u v : List (Str × List Nat)} (nd : (v.map (·.1)).Nodup) (h : u.Perm v) (x : Str) : u.lookup x = v.lookup x := by
  have ndu : (u.map (·.1)).Nodup := ((h.map (·.1)).nodup_iff).mpr nd
  cases q : u.lookup x with
  | some l =>
    have m : (x, l) ∈ u := by
      clear nd h ndu
      induction u with
      | nil => cases q
      | cons p u ih =>
        rw [List.lookup] at q
        cases z : x == p.1 with
        | true =>
          rw [z] at q
          cases q
          rw [eq_of_beq z]
          exact List.mem_cons_self ..
        | false =>
          rw [z] at q
          exact List.mem_cons_of_mem _ (ih q)
    exact (lk_mem nd (h.mem_iff.mp m)).symm
  | none =>
    cases q2 : v.lookup x with
    | none => rfl
    | some l =>
      have m : (x, l) ∈ v := by
        clear nd h ndu q
        induction v with
        | nil => cases q2
        | cons p u ih =>
          rw [List.lookup] at q2
          cases z : x == p.1 with
          | true =>
            rw [z] at q2
            cases q2
            rw [eq_of_beq z]
            exact List.mem_cons_self ..
          | false =>
            rw [z] at q2
            exact List.mem_cons_of_mem _ (ih q2)
      have := lk_mem ndu (h.mem_iff.mpr m)
      rw [q] at this
      cases this
theorem sortKV_congr {u v : List (Str × List Nat)} (nd : (v.map (·.1)).Nodup) (h : u.Perm v) : sortKV u = sortKV v := by
  unfold sortKV
  have e : srtT (u.map (·.1)) = srtT (v.map (·.1)) := srtT_one (srtT_sorted _) ((srtT_perm _).trans ((h.map (·.1)).symm))
  rw [e]
  exact List.map_congr_left fun x _ => by rw [lk_perm nd h]
theorem kept_sub (v : List (Str × List Nat)) : ((keptS v).map (·.1)).Sublist (v.map (·.1)) := by
  unfold keptS
  rw [List.map_map]
  exact (List.filter_sublist).map _
section
variable {n : Nat} {ro w : List D} {A : Mo}
theorem e_write (hn : 1 < n) (hA : A.Good) (h10 : A.n < 10) (hv : KvOk A.n A.kept) (hp : ∀ p ∈ A.pairs, p.1 < A.n ∧ p.2 < A.n) : ev n .f_write_model [A.progD] ro w = .ok (.str (mkS (mtx (mws A.n A.pairs (sortKV A.kept))))) w := by
  obtain ⟨m, rfl⟩ : ∃ m, n = m + 1 := ⟨n - 1, by omega⟩
  generalize hR : ro ++ w = R
  have nd : (A.kept.map (·.1)).Nodup := hA.nd.sublist ((List.filter_sublist).map _)
  have fr := e_fr (A := A) (n := m) (by omega)
  have tw := e_tw hA (n := m) (by omega)
  have mf : ∀ (e1 e2 e3 e4 e5 : Option D) w, cMeth "Model" "frame" (fun ds => if ds.length = 1 then ev m .f_Model_frame ds else M.no) (cVar 0) (cArgs []) [some A.progD, e1, e2, e3, e4, e5] R w = .ok A.frD w := fun e1 e2 e3 e4 e5 w => by
    rw [x_meth (ns := ["_frame", "_seen", "_values"]) (xs := [A.frD, .lst ((List.range A.n).map fun i => nsD (A.row i)), vD A.kept]) (o := A.progD) (w1 := w) rfl rfl (by simp [ofString_inj])]
    simp [fr R w]
  have mt : ∀ (e1 e2 e3 e4 e5 : Option D) w, cMeth "Model" "true_worlds" (fun ds => if ds.length = 1 then ev m .f_Model_true_worlds ds else M.no) (cVar 0) (cArgs []) [some A.progD, e1, e2, e3, e4, e5] R w = .ok (vD A.kept) w := fun e1 e2 e3 e4 e5 w => by
    rw [x_meth (ns := ["_frame", "_seen", "_values"]) (xs := [A.frD, .lst ((List.range A.n).map fun i => nsD (A.row i)), vD A.kept]) (o := A.progD) (w1 := w) rfl rfl (by simp [ofString_inj])]
    simp [tw R w]
  have i0 : ∀ w, gIx A.frD (.int 0) R w = .ok (.int (A.n : Nat)) w := fun _ => rfl
  have i1 : ∀ w, gIx A.frD (.int 1) R w = .ok (.tup (A.pairs.map prD)) w := fun _ => rfl
  have sfr : ∀ w, see R w A.frD = A.frD := fun _ => rfl
  have t7 : (cp "worlds ").length = 7 := by decide
  have n1 : (cp "\n").length = 1 := by decide
  have run : runDef 1 6 (b_write_model (ev m)) [A.progD] R [] = .ok (.str (mkS (mtx (mws A.n A.pairs (sortKV A.kept))))) [] := by
    rw [x_def]
    simp only [List.length_cons, List.length_nil, Nat.zero_add, Nat.reduceAdd, if_true, List.map_cons, List.map_nil, Nat.reduceSub, List.replicate, List.cons_append, List.nil_append, List.append_nil]
    unfold b_write_model
    have ix0 : cBin gIx (cMeth "Model" "frame" (fun ds => if ds.length = 1 then ev m .f_Model_frame ds else M.no) (cVar 0) (cArgs [])) (cK (.int 0)) [some A.progD, none, none, none, none, none] R [] = .ok (.int (A.n : Nat)) [] := by
      rw [x_bin, mf, an_ok, x_k, an_ok, sfr, see_int, i0]
    have j := cJs_all (R := R) (env := [some A.progD, none, none, none, none, none]) (w := []) [(cK (.str "worlds "), cp "worlds "), (cFmt (cBin gIx (cMeth "Model" "frame" (fun ds => if ds.length = 1 then ev m .f_Model_frame ds else M.no) (cVar 0) (cArgs [])) (cK (.int 0))), dg A.n), (cK (.str "\n"), cp "\n")] (fun q hq => by
      simp only [List.mem_cons, List.not_mem_nil, or_false] at hq
      rcases hq with rfl | rfl | rfl
      · exact k_mk (x := "worlds ") (env := [some A.progD, none, none, none, none, none]) (R := R) (w := [])
      · exact fmt_dg (ro := R) (w := []) h10 ix0
      · exact k_mk (x := "\n") (env := [some A.progD, none, none, none, none, none]) (R := R) (w := [])) (by
      simp only [List.map_cons, List.map_nil, List.flatten_cons, List.flatten_nil, List.append_nil, List.length_append, t7, n1, dg, List.length_cons, List.length_nil]
      decide)
    have j' : cJs [cK (.str "worlds "), cFmt (cBin gIx (cMeth "Model" "frame" (fun ds => if ds.length = 1 then ev m .f_Model_frame ds else M.no) (cVar 0) (cArgs [])) (cK (.int 0))), cK (.str "\n")] [some A.progD, none, none, none, none, none] R [] = .ok (.str (mkS (mtx [wdW A.n]))) [] := by
      rw [mtx_one, l_worlds]
      refine j.trans ?_
      simp
    rw [x_seq, x_set, j', st_ok, oan_nx]
    simp only [List.set_cons_succ, List.set_cons_zero]
    have it : cSeq (cBin gIx (cMeth "Model" "frame" (fun ds => if ds.length = 1 then ev m .f_Model_frame ds else M.no) (cVar 0) (cArgs [])) (cK (.int 1))) [some A.progD, some (.str (mkS (mtx [wdW A.n]))), none, none, none, none] R [] = .ok (A.pairs.map prD) [] := by
      rw [x_seqI, x_bin, mf, an_ok, x_k, an_ok, sfr, see_int, i1, an_ok]
      rfl
    have lw : (mtx [wdW A.n]).length ≤ 100 := by
      rw [mtx_one, l_worlds]
      simp only [List.length_append, t7, n1, dg, List.length_cons, List.length_nil]
      decide
    have lp := hA.prs
    obtain ⟨e2', e3', wp⟩ := wr_pairs (R := R) (M := A.progD) A.pairs (mtx [wdW A.n]) none none (fun p h => by have := hp p h; omega) (by omega)
    have wp' := wp
    unfold wrS at wp'
    simp only [wE] at wp'
    rw [x_seq, x_for, it, st_ok, wp', oan_nx, x_seq, x_set, mt, st_ok, oan_nx]
    simp only [List.set_cons_succ, List.set_cons_zero]
    have few := hv.fw
    have so : ∀ (T : D) (e2 e3 : Option D), cSeq (cCall (one gSortTD) (cArgs [cVar 4])) [some A.progD, some T, e2, e3, some (vD A.kept), none] R [] = .ok ((sortKV A.kept).map fun p => .str p.1) [] := fun T e2 e3 => by
      have q : gSortTD (vD A.kept) R [] = .ok (.lst ((srtT (A.kept.map (·.1))).map .str)) [] := by
        have e : vD A.kept = .dic ((A.kept.map (·.1)).map .str) (vxs A.kept) := by
          rw [vD_eq]
          unfold vks
          rw [List.map_map]
          rfl
        rw [e]
        exact sortTD_ok (by rw [List.length_map]; omega)
      have sv : see R [] (vD A.kept) = vD A.kept := rfl
      rw [x_seqI]
      simp only [x_call, x_args, x_args0, x_one, x_var, List.getElem?_cons_zero, List.getElem?_cons_succ, ofO_ss, an_ok, sv, q]
      rw [← sortKV_names, List.map_map]
      rfl
    have pm := sortKV_perm nd
    have lpairs : (mtx [wdW A.n] ++ mtx (A.pairs.map wdS)).length ≤ 100 + 9 * 64 := by
      have key : ∀ l : List (Nat × Nat), (mtx (l.map wdS)).length = 9 * l.length := fun l => by
        induction l with
        | nil => rfl
        | cons p l ih =>
          have e : mtx ((p :: l).map wdS) = (lnC (wdS p) ++ [10]) ++ mtx (l.map wdS) := rfl
          rw [e, List.length_append, sees_len, ih, List.length_cons]
          omega
      rw [List.length_append, key]
      omega
    obtain ⟨e5', wn⟩ := wr_names (R := R) (M := A.progD) (v := A.kept) (sortKV A.kept) (mtx [wdW A.n] ++ mtx (A.pairs.map wdS)) e2' e3' none (fun p hp => by
      have hm := pm.mem_iff.mp hp
      have := hv.nm p hm
      have h2 := hv.rg p hm
      exact ⟨dget_v nd hm, this.1, by omega, fun i hi => by have := h2.1 i hi; omega⟩) (by
      rw [pm.length_eq]
      omega)
    have wn' := wn
    unfold wrT at wn'
    simp only [wE] at wn'
    rw [x_seq, x_for, so, st_ok, wn', oan_nx, x_ret]
    have fin : mtx [wdW A.n] ++ mtx (A.pairs.map wdS) ++ mtx ((sortKV A.kept).map wdT) = mtx (mws A.n A.pairs (sortKV A.kept)) := by
      rw [← mtx_app, ← mtx_app]
      rfl
    rw [fin]
    rfl
  rw [show ev (m + 1) .f_write_model = pureD (runDef 1 6 (b_write_model (ev m))) from rfl]
  unfold pureD
  rw [hR]
  simp only [run]
  rfl
end
/-! ### Model(..) with a dict whose lists may change -/
structure KV where
  x : Str
  r : D
  l : List Int
def KV.ok (n : Nat) (p : KV) : Bool := p.l.all fun i => decide (0 ≤ i ∧ i < (n : Int))
def toN (kv : List KV) : List (Str × List Nat) := kv.map fun p => (p.x, p.l.map Int.toNat)
theorem toN_app (a b : List KV) : toN (a ++ b) = toN a ++ toN b := List.map_append
theorem toN_l {p : KV} {n : Nat} (h : p.ok n = true) : p.l.map D.int = (p.l.map Int.toNat).map nD := by
  rw [List.map_map]
  refine List.map_congr_left fun i hi => ?_
  have := of_decide_eq_true (List.all_eq_true.mp h i hi)
  show D.int i = D.int ((i.toNat : Nat) : Int)
  rw [Int.toNat_of_nonneg this.1]
abbrev kD (kv : List KV) : D := .dic (kv.map fun p => .str p.x) (kv.map (·.r))
theorem dget_kv : ∀ {kv : List KV} {p : KV}, (kv.map (·.x)).Nodup → p ∈ kv → dget (kv.map fun p => .str p.x) (kv.map (·.r)) (.str p.x) = some p.r
  | [], p, _, h => by cases h
  | q :: kv, p, nd, h => by
    rw [List.map_cons, List.nodup_cons] at nd
    rw [List.map_cons, List.map_cons]
    unfold dget
    rcases List.mem_cons.mp h with rfl | h
    · simp
    · have ne : p.x ≠ q.x := fun e => nd.1 (by rw [← e]; exact List.mem_map_of_mem h)
      have ne2 : ¬ keyOf (.str q.x) = keyOf (.str p.x) := by
        simp only [keyOf_str, Option.some.injEq, Sum.inr.injEq]
        exact fun e => ne e.symm
      simp only [ne2, if_false, decide_false, Bool.false_eq_true]
      exact dget_kv nd.2 h
def vlC (n : Nat) : SF := sIf (cNotT (cTru (cCall (fun ds => if ds.length = 2 then ev n .f_is_world ds else M.no) (cArgs [cVar 4, cBin gIx (cVar 1) (cK (.int 0))])))) (sRaise "InvalidModel") (sNil)
def vlS (n : Nat) : SF := sSeq (sForM 100 (.nm 4) (cDGet (cVar 2) (cVar 5)) (vlC n))
  (sIf (cTest (cBin gGt (cCall (one gLen) (cArgs [cDGet (cVar 2) (cVar 5)])) (cK (.int 0)))) (sDPutF (cFld "Model" "_values" (cVar 0)) (cVar 5) (cCall (one gSortSet) (cArgs [cDGet (cVar 2) (cVar 5)]))) (sNil))
section
variable {m : Nat} {ro : List D}
abbrev iE (b : Nat) (fr D0 : D) (e3 e4 e5 e6 : Option D) : Fx.Env := [some (.ref b), some fr, some D0, e3, e4, e5, e6]
theorem vc_ok (hm : 0 < m) {b n : Nat} {frs : List D} {D0 : D} {e3 e5 e6 : Option D} {i : Int} {w : List D} : vlC m (iE b (.tup (.int (n : Nat) :: frs)) D0 e3 (some (.int i)) e5 e6) ro w = if 0 ≤ i ∧ i < (n : Int) then .go .nx (iE b (.tup (.int (n : Nat) :: frs)) D0 e3 (some (.int i)) e5 e6) w else .exn "InvalidModel" [] [] (iE b (.tup (.int (n : Nat) :: frs)) D0 e3 (some (.int i)) e5 e6) w := by
  have hw := e_world hm i (n : Int) ro w
  have ix : ∀ w, gIx (.tup (.int (n : Nat) :: frs)) (.int 0) ro w = .ok (.int (n : Nat)) w := fun w => by
    rw [Fx.ix_tup, show L2.atI (D.int (n : Nat) :: frs) 0 = (D.int (n : Nat) :: frs)[0]? from Fx.atI_nat (i := 0)]
    rfl
  have t : cNotT (cTru (cCall (fun ds => if ds.length = 2 then ev m .f_is_world ds else M.no) (cArgs [cVar 4, cBin gIx (cVar 1) (cK (.int 0))]))) (iE b (.tup (.int (n : Nat) :: frs)) D0 e3 (some (.int i)) e5 e6) ro w = .ok (!decide (0 ≤ i ∧ i < (n : Int))) w := by
    simp only [iE, x_notT, x_tru, x_call, x_args, x_args0, x_bin, x_k, x_var, List.getElem?_cons_zero, List.getElem?_cons_succ, ofO_ss, an_ok, see_tup, see_int, ix, List.length_cons, List.length_nil, Nat.zero_add, Nat.reduceAdd, if_true, hw, see_bl, truth_bl]
  unfold vlC
  rw [x_ifS, t, st_ok]
  by_cases c : 0 ≤ i ∧ i < (n : Int)
  · rw [decide_eq_true c, Bool.not_true, if_neg Bool.false_ne_true, if_pos c, x_nil]
  · rw [decide_eq_false c, Bool.not_false, if_pos rfl, if_neg c, x_raise]
theorem vc_loop (hm : 0 < m) {b n : Nat} {frs : List D} {D0 r : D} {e3 e5 e6 : Option D} {w : List D} {l : List Int} (hs : see ro w r = .lst (l.map .int)) : ∀ (l2 l1 : List Int) (e4 : Option D) (k : Nat), l = l1 ++ l2 → l2.length < k → if l2.all (fun i => decide (0 ≤ i ∧ i < (n : Int))) = true then ∃ e4', forM (.nm 4) (vlC m) r k l1.length (iE b (.tup (.int (n : Nat) :: frs)) D0 e3 e4 e5 e6) ro w = .go .nx (iE b (.tup (.int (n : Nat) :: frs)) D0 e3 e4' e5 e6) w
    else ∃ env', forM (.nm 4) (vlC m) r k l1.length (iE b (.tup (.int (n : Nat) :: frs)) D0 e3 e4 e5 e6) ro w = .exn "InvalidModel" [] [] env' w
  | [], l1, e4, k, h, hk => by
    obtain ⟨k, rfl⟩ : ∃ k', k = k' + 1 := ⟨k - 1, by simp at hk; omega⟩
    rw [List.all_nil, if_pos rfl]
    exact ⟨e4, forM_end hs (by rw [h]; simp)⟩
  | i :: l2, l1, e4, k, h, hk => by
    obtain ⟨k, rfl⟩ : ∃ k', k = k' + 1 := ⟨k - 1, by simp at hk; omega⟩
    have ih := vc_loop hm (b := b) (n := n) (frs := frs) (D0 := D0) (e3 := e3) (e5 := e5) (e6 := e6) hs l2 (l1 ++ [i]) (some (.int i)) k (by rw [h]; simp) (by simp at hk; omega)
    rw [List.length_append] at ih
    have ee : (iE b (.tup (.int (n : Nat) :: frs)) D0 e3 e4 e5 e6).set 4 (some (.int i)) = iE b (.tup (.int (n : Nat) :: frs)) D0 e3 (some (.int i)) e5 e6 := rfl
    have ei : (l.map D.int)[l1.length]? = some (.int i) := by
      rw [h, List.map_append, List.getElem?_append_right (by simp)]
      simp
    have fo : forM (.nm 4) (vlC m) r (k + 1) l1.length (iE b (.tup (.int (n : Nat) :: frs)) D0 e3 e4 e5 e6) ro w = (if 0 ≤ i ∧ i < (n : Int) then OS.go .nx (iE b (.tup (.int (n : Nat) :: frs)) D0 e3 (some (.int i)) e5 e6) w else .exn "InvalidModel" [] [] (iE b (.tup (.int (n : Nat) :: frs)) D0 e3 (some (.int i)) e5 e6) w).turn fun env2 w2 => forM (.nm 4) (vlC m) r k (l1.length + 1) env2 ro w2 := by
      rw [forM_nm hs ei, ee, vc_ok hm]
    by_cases c : 0 ≤ i ∧ i < (n : Int)
    · rw [if_pos c, tn_nx] at fo
      by_cases a : l2.all (fun i => decide (0 ≤ i ∧ i < (n : Int))) = true
      · rw [if_pos a] at ih
        rw [if_pos (by rw [List.all_cons, decide_eq_true c, a]; rfl), fo]
        exact ih
      · rw [if_neg a] at ih
        rw [if_neg (by rw [List.all_cons, decide_eq_true c, Bool.true_and]; exact a), fo]
        exact ih
    · rw [if_neg c, tn_exn] at fo
      rw [if_neg (by rw [List.all_cons, decide_eq_false c, Bool.false_and]; exact Bool.false_ne_true), fo]
      exact ⟨iE b (.tup (.int (n : Nat) :: frs)) D0 e3 (some (.int i)) e5 e6, rfl⟩
/-- one name -/
theorem vl_step (hm : 0 < m) {b n : Nat} {frs : List D} {e3 e4 e6 : Option D} {kv : List KV} {p : KV} {pre : List D} {ns : List Str} {ys : List D} {k : Nat} {v1 : List (Str × List Nat)}
    (nd : (kv.map (·.x)).Nodup) (hp : p ∈ kv) (hs : ∀ w, see ro w p.r = .lst (p.l.map .int)) (hl : p.l.length < 64) (hb : b = ro.length) (hp0 : pre[0]? = some (.ins "Model" ns ys)) (hpl : pre.length = k) (hf : fieldV ns ys "_values" = some (.ref (ro.length + k))) (hnew : p.x ∉ v1.map (·.1)) (hsz : v1.length < 1000) :
    if p.ok n = true then ∃ e4', vlS m (iE b (.tup (.int (n : Nat) :: frs)) (kD kv) e3 e4 (some (.str p.x)) e6) ro (pre ++ [vD (keptS v1)]) = .go .nx (iE b (.tup (.int (n : Nat) :: frs)) (kD kv) e3 e4' (some (.str p.x)) e6) (pre ++ [vD (keptS (v1 ++ toN [p]))])
    else ∃ env' w', vlS m (iE b (.tup (.int (n : Nat) :: frs)) (kD kv) e3 e4 (some (.str p.x)) e6) ro (pre ++ [vD (keptS v1)]) = .exn "InvalidModel" [] [] env' w' := by
  have hsz2 : sizeLine = 16777216 := rfl
  subst hb
  have g : ∀ w, gDGet (kD kv) (.str p.x) ro w = .ok p.r w := fun w => dget_eq (by simp) (dget_kv nd hp)
  have sk : ∀ w, see ro w (kD kv) = kD kv := fun _ => rfl
  have dg : ∀ e4 w, cDGet (cVar 2) (cVar 5) (iE ro.length (.tup (.int (n : Nat) :: frs)) (kD kv) e3 e4 (some (.str p.x)) e6) ro w = .ok p.r w := fun e4 w => by
    simp only [iE, x_dget, x_var, List.getElem?_cons_zero, List.getElem?_cons_succ, ofO_ss, an_ok, sk, g]
  have lp := vc_loop hm (ro := ro) (b := ro.length) (n := n) (frs := frs) (D0 := kD kv) (e3 := e3) (e5 := some (.str p.x)) (e6 := e6) (w := pre ++ [vD (keptS v1)]) (hs _) p.l [] e4 100 rfl (by omega)
  by_cases c : p.ok n = true
  · rw [if_pos c]
    rw [if_pos (show p.l.all (fun i => decide (0 ≤ i ∧ i < (n : Int))) = true from c)] at lp
    obtain ⟨e4', lp⟩ := lp
    refine ⟨e4', ?_⟩
    unfold vlS
    rw [x_seq, x_forM, dg, st_ok]
    rw [show forM (.nm 4) (vlC m) p.r 100 0 _ ro _ = _ from lp, oan_nx]
    have ln : ∀ w, cTest (cBin gGt (cCall (one gLen) (cArgs [cDGet (cVar 2) (cVar 5)])) (cK (.int 0))) (iE ro.length (.tup (.int (n : Nat) :: frs)) (kD kv) e3 e4' (some (.str p.x)) e6) ro w = .ok (decide (0 < p.l.length)) w := fun w => by
      simp only [x_test, x_bin, x_call, x_args, x_args0, dg, an_ok, x_one, hs, len_lst, x_k, see_int, gt_int, bool_bl, List.length_map]
      congr 1
      exact decide_eq_decide.mpr (by omega)
    rw [x_ifS, ln, st_ok]
    have tk : toN [p] = [(p.x, p.l.map Int.toNat)] := rfl
    by_cases q : p.l = []
    · have ek : keptS (v1 ++ toN [p]) = keptS v1 := by
        rw [tk]
        unfold keptS
        simp [q]
      rw [ek, q]
      rfl
    · have ek : keptS (v1 ++ toN [p]) = keptS v1 ++ [(p.x, srt (p.l.map Int.toNat))] := by
        rw [tk]
        unfold keptS
        simp [q]
      have hz : 0 < p.l.length := List.length_pos_iff.mpr q
      rw [decide_eq_true hz, if_pos rfl]
      have d0 : (pre ++ [vD (keptS v1)])[k]? = some (.dic (vks (keptS v1)) (vxs (keptS v1))) := by
        rw [List.getElem?_append_right (by omega)]
        simp [hpl, vD_eq]
      have hlen : (vks (keptS v1)).length < sizeLine := by
        have h1 : (vks (keptS v1)).length ≤ v1.length := by
          unfold vks keptS
          simp only [List.length_map]
          exact List.length_filter_le _ _
        omega
      have nk : p.x ∉ (keptS v1).map (·.1) := fun hm => hnew (kept_names hm)
      have d1 := dput_at (ro := ro) (v := nsD (srt (p.l.map Int.toNat))) (k := .str p.x) d0 (by simp) hlen
      have d2 : dput (vks (keptS v1)) (vxs (keptS v1)) (.str p.x) (nsD (srt (p.l.map Int.toNat))) = vD (keptS (v1 ++ toN [p])) := by
        unfold dput
        rw [dhas_v nk, ek, vD_eq]
        simp [vks, vxs]
      rw [d2] at d1
      have hpp : 0 < pre.length := (List.getElem?_eq_some_iff.mp hp0).1
      have w0 : ∀ d, see ro (pre ++ [d]) (.ref ro.length) = .ins "Model" ns ys := fun d => see_at (k := 0) (by rw [List.getElem?_append_left hpp]; exact hp0)
      have cs : ∀ w, cCall (one gSortSet) (cArgs [cDGet (cVar 2) (cVar 5)]) (iE ro.length (.tup (.int (n : Nat) :: frs)) (kD kv) e3 e4' (some (.str p.x)) e6) ro w = .ok (nsD (srt (p.l.map Int.toNat))) w := fun w => by
        simp only [x_call, x_args, x_args0, dg, an_ok, x_one, hs]
        rw [toN_l c]
        exact sortSet_ns (by rw [List.length_map]; omega)
      have cf : cFld "Model" "_values" (cVar 0) (iE ro.length (.tup (.int (n : Nat) :: frs)) (kD kv) e3 e4' (some (.str p.x)) e6) ro (pre ++ [vD (keptS v1)]) = .ok (.ref (ro.length + k)) (pre ++ [vD (keptS v1)]) := by
        simp only [iE, x_fld, x_var, List.getElem?_cons_zero, ofO_ss, an_ok, w0, fld_ins hf]
      have c5 : cVar 5 (iE ro.length (.tup (.int (n : Nat) :: frs)) (kD kv) e3 e4' (some (.str p.x)) e6) ro (pre ++ [vD (keptS v1)]) = .ok (.str p.x) (pre ++ [vD (keptS v1)]) := rfl
      rw [x_dput, cs, st_ok, cf, st_ok, c5, st_ok, d1, st_ok, List.set_append_right _ _ (by omega), hpl, Nat.sub_self]
      rfl
  · rw [if_neg c]
    rw [if_neg (show ¬ p.l.all (fun i => decide (0 ≤ i ∧ i < (n : Int))) = true from c)] at lp
    obtain ⟨env', lp⟩ := lp
    refine ⟨env', pre ++ [vD (keptS v1)], ?_⟩
    unfold vlS
    rw [x_seq, x_forM, dg, st_ok]
    rw [show forM (.nm 4) (vlC m) p.r 100 0 _ ro _ = _ from lp]
    rfl
theorem vl_loop (hm : 0 < m) {b n : Nat} {frs : List D} {e3 e6 : Option D} {kv : List KV} {pre : List D} {ns : List Str} {ys : List D} {k : Nat}
    (nd : (kv.map (·.x)).Nodup) (hs : ∀ p ∈ kv, (∀ w, see ro w p.r = .lst (p.l.map .int)) ∧ p.l.length < 64) (hb : b = ro.length) (hp0 : pre[0]? = some (.ins "Model" ns ys)) (hpl : pre.length = k) (hf : fieldV ns ys "_values" = some (.ref (ro.length + k))) (hsz : kv.length < 1000) : ∀ (v2 v1 : List KV) (e4 e5 : Option D), kv = v1 ++ v2 →
    if v2.all (KV.ok n) = true then ∃ e4' e5', forL (.nm 5) (vlS m) (v2.map fun p => .str p.x) (iE b (.tup (.int (n : Nat) :: frs)) (kD kv) e3 e4 e5 e6) ro (pre ++ [vD (keptS (toN v1))]) = .go .nx (iE b (.tup (.int (n : Nat) :: frs)) (kD kv) e3 e4' e5' e6) (pre ++ [vD (keptS (toN kv))])
    else ∃ env' w', forL (.nm 5) (vlS m) (v2.map fun p => .str p.x) (iE b (.tup (.int (n : Nat) :: frs)) (kD kv) e3 e4 e5 e6) ro (pre ++ [vD (keptS (toN v1))]) = .exn "InvalidModel" [] [] env' w'
  | [], v1, e4, e5, h => by
    rw [List.all_nil, if_pos rfl]
    exact ⟨e4, e5, by rw [h, List.append_nil]; rfl⟩
  | p :: v2, v1, e4, e5, h => by
    have hp : p ∈ kv := by rw [h]; simp
    have hnew : p.x ∉ (toN v1).map (·.1) := fun hm => by
      have e : (toN v1).map (·.1) = v1.map (·.x) := by
        unfold toN
        rw [List.map_map]
        rfl
      rw [e] at hm
      rw [h, List.map_append, List.map_cons] at nd
      exact (List.nodup_append.mp nd).2.2 _ hm p.x (List.mem_cons_self ..) rfl
    have h2 : v1.length ≤ kv.length := by rw [h]; simp
    have st := vl_step hm (b := b) (n := n) (frs := frs) (e3 := e3) (e4 := e4) (e6 := e6) (v1 := toN v1) nd hp (hs p hp).1 (hs p hp).2 hb hp0 hpl hf hnew (by unfold toN; rw [List.length_map]; omega)
    have ee : (iE b (.tup (.int (n : Nat) :: frs)) (kD kv) e3 e4 e5 e6).set 5 (some (.str p.x)) = iE b (.tup (.int (n : Nat) :: frs)) (kD kv) e3 e4 (some (.str p.x)) e6 := rfl
    by_cases c : p.ok n = true
    · rw [if_pos c] at st
      obtain ⟨e4', st⟩ := st
      have ih := vl_loop hm (n := n) (frs := frs) (e3 := e3) (e6 := e6) nd hs hb hp0 hpl hf hsz v2 (v1 ++ [p]) e4' (some (.str p.x)) (by rw [h]; simp)
      rw [← toN_app] at st
      have fo : forL (.nm 5) (vlS m) ((p :: v2).map fun p => .str p.x) (iE b (.tup (.int (n : Nat) :: frs)) (kD kv) e3 e4 e5 e6) ro (pre ++ [vD (keptS (toN v1))]) = forL (.nm 5) (vlS m) (v2.map fun p => .str p.x) (iE b (.tup (.int (n : Nat) :: frs)) (kD kv) e3 e4' (some (.str p.x)) e6) ro (pre ++ [vD (keptS (toN (v1 ++ [p])))]) := by
        rw [List.map_cons, for_nm, ee, st, tn_nx]
      by_cases a : v2.all (KV.ok n) = true
      · rw [if_pos a] at ih
        rw [if_pos (by rw [List.all_cons, c, a]; rfl), fo]
        exact ih
      · rw [if_neg a] at ih
        rw [if_neg (by rw [List.all_cons, c, Bool.true_and]; exact a), fo]
        exact ih
    · rw [if_neg c] at st
      obtain ⟨env', w', st⟩ := st
      rw [if_neg (by rw [List.all_cons]; simp [c])]
      exact ⟨env', w', by rw [List.map_cons, for_nm, ee, st, tn_exn]⟩
end
theorem init_gen {m : Nat} (hm : 1 < m) {n : Nat} {l : List (Nat × Nat)} {kv : List KV} (h0 : 0 < n) (hn : n < 64) (hl : PairsOk n l) (nd : (kv.map (·.x)).Nodup) (ro : List D) (hs : ∀ p ∈ kv, (∀ w, see ro w p.r = .lst (p.l.map .int)) ∧ p.l.length < 64) (hsz : kv.length < 1000) :
    if kv.all (KV.ok n) = true then runDef 3 7 (b_Model_init (ev m)) [.ref ro.length, frD n l, kD kv] ro [.ins "Model" [] []] = .ok .non (initW ro.length n l (toN kv))
    else ∃ w', runDef 3 7 (b_Model_init (ev m)) [.ref ro.length, frD n l, kD kv] ro [.ins "Model" [] []] = .exn "InvalidModel" [] [] w' := by
  have hsz2 : sizeLine = 16777216 := rfl
  have hf : FrameSpec (ev m .f_is_frame) := e_frame hm
  have cf1 := fun w => hf n l ro w h0 hn hl
  have f1 : (runDef 3 7 (b_Model_init (ev m)) [.ref ro.length, frD n l, kD kv] ro [.ins "Model" [] []]) =
      ((sSeq (sFor (.tp [3, 4]) (cSeq (cBin gIx (cVar 1) (cK (.int 1)))) sSeen) (sSeq (sSetF "Model" "_values" (cVar 0) (cDNew)) (sForDX (.nm 5) 2 (vlS m)))) [some (.ref ro.length), some (frD n l), some (kD kv), none, none, none, none] ro
        (.ins "Model" ["_frame", "_seen"] [frD n l, .ref (ro.length + (n + 1))] :: ((rowsOf n []).map nsD ++ .lst ((List.range n).map fun i => .ref (ro.length + (1 + i))) :: []))).fin := by
    have a1 : ∀ w, (sIf (cNotT (cTru (cCall (fun ds => if ds.length = 1 then ev m .f_is_frame ds else M.no) (cArgs [cVar 1])))) (sRaise "InvalidModel") (sNil)) [some (.ref ro.length), some (frD n l), some (kD kv), none, none, none, none] ro w = .go .nx [some (.ref ro.length), some (frD n l), some (kD kv), none, none, none, none] w := fun w => by
      have : ev m .f_is_frame [frD n l] ro w = .ok (.bl true) w := cf1 w
      simp [this]
    have a2 : (sSetF "Model" "_frame" (cVar 0) (cTup (cArgs [cBin gIx (cVar 1) (cK (.int 0)), cCall (one gTuple) (cArgs [cBin gIx (cVar 1) (cK (.int 1))])]))) [some (.ref ro.length), some (frD n l), some (kD kv), none, none, none, none] ro [.ins "Model" [] []] =
        .go .nx [some (.ref ro.length), some (frD n l), some (kD kv), none, none, none, none] [.ins "Model" ["_frame"] [frD n l]] := by
      have z := setF_at (f := "_frame") (v := frD n l) (n := ro.length) (ro := ro) (w := [.ins "Model" [] []]) (c := "Model") (ns := []) (xs := []) (Nat.lt_irrefl _) (by simp) (by decide)
      simp only [Nat.sub_self] at z
      have c2 : (cTup (cArgs [cBin gIx (cVar 1) (cK (.int 0)), cCall (one gTuple) (cArgs [cBin gIx (cVar 1) (cK (.int 1))])])) [some (.ref ro.length), some (frD n l), some (kD kv), none, none, none, none] ro [.ins "Model" [] []] = .ok (frD n l) [.ins "Model" [] []] := by simp [frD]
      rw [x_setF, c2, st_ok]
      simp only [x_var, List.getElem?_cons_zero, ofO_ss, st_ok, z]
      rfl
    have a3 : (sSetF "Model" "_seen" (cVar 0) (cComp (.nm 6) [6] (cRng1 (cArgs [cBin gIx (cVar 1) (cK (.int 0))])) (cYes) (cLstM (cArgs [])) kMut)) [some (.ref ro.length), some (frD n l), some (kD kv), none, none, none, none] ro [.ins "Model" ["_frame"] [frD n l]] =
        .go .nx [some (.ref ro.length), some (frD n l), some (kD kv), none, none, none, none] (.ins "Model" ["_frame", "_seen"] [frD n l, .ref (ro.length + (n + 1))] :: ((rowsOf n []).map nsD ++ .lst ((List.range n).map fun i => .ref (ro.length + (1 + i))) :: [])) := by
      have z := setF_at (f := "_seen") (v := .ref (ro.length + (n + 1))) (n := ro.length) (ro := ro) (w := .ins "Model" ["_frame"] [frD n l] :: ((rowsOf n []).map nsD ++ .lst ((List.range n).map fun i => .ref (ro.length + (1 + i))) :: [])) (c := "Model") (ns := ["_frame"]) (xs := [frD n l]) (Nat.lt_irrefl _) (by simp) (by decide)
      have er : rowsOf n [] = List.replicate n [] := by
        unfold Fx.rowsOf
        apply List.ext_getElem?
        intro i
        by_cases hi : i < n <;> simp [hi, List.getElem?_replicate]
      have c1 := comp_new (k := 6) (env := [some (.ref ro.length), some (frD n l), some (kD kv), none, none, none, none]) (ro := ro) (rngD 0 n) [.ins "Model" ["_frame"] [frD n l]]
      have hl2 : (rngD 0 n).length = n := by simp [rngD]
      rw [hl2] at c1
      have r1 := fun w => rng1_nat (n := n) (ro := ro) (w := w) (by omega)
      have r2 : ∀ w, gIx (frD n l) (.int 0) ro w = .ok (.int n) w := fun w => by simp [frD]
      have hl3 : (rngD 0 n).length ≤ sizeLine := by omega
      rw [x_setF, x_comp]
      simp only [x_rng1, x_args, x_args0, x_bin, x_var, x_k, List.getElem?_cons_zero, List.getElem?_cons_succ, ofO_ss, an_ok, see_int, r2, show ∀ w, see ro w (frD n l) = frD n l from fun _ => rfl, r1, hl3, if_true]
      rw [show wipeE ([some (.ref ro.length), some (frD n l), some (kD kv), none, none, none, none] : Fx.Env) [6] = [some (.ref ro.length), some (frD n l), some (kD kv), none, none, none, none] from rfl, c1]
      simp only [an_ok, x_mut, st_ok]
      rw [er] at z ⊢
      simp only [List.map_replicate, List.length_singleton, List.length_append, List.length_replicate, Nat.sub_self] at z ⊢
      rw [show [D.ins "Model" ["_frame"] [frD n l]] ++ List.replicate n (D.lst []) ++ [.lst ((List.range n).map fun i => .ref (ro.length + (1 + i)))] = .ins "Model" ["_frame"] [frD n l] :: (List.replicate n (nsD []) ++ .lst ((List.range n).map fun i => .ref (ro.length + (1 + i))) :: []) from by simp [nsD], Nat.add_comm 1 n, z]
      simp only [st_ok]
      rfl
    rw [x_def]
    simp only [List.length_cons, List.length_nil, Nat.zero_add, Nat.reduceAdd, if_true, List.map_cons, List.map_nil, Nat.reduceSub, List.replicate, List.cons_append, List.nil_append]
    unfold b_Model_init
    rw [x_seq, a1, oan_nx, x_seq, a2, oan_nx, x_seq, a3, oan_nx]
    rfl
  rw [f1]
  obtain ⟨e3, e4, g1⟩ := seen_loop (n := n) (ns := ["_frame", "_seen"]) (xs := [frD n l, .ref (ro.length + (n + 1))]) (tl := []) (ro := ro) (b := some (frD n l)) (c := some (kD kv)) (e5 := none) (e6 := none) (by simp [fieldV, ofString_inj]) l [] none none (fun p hp => (hl.1 p hp).1) (by have := hl.2.2; simp; omega)
  rw [List.nil_append] at g1
  have it1 : ∀ w, cSeq (cBin gIx (cVar 1) (cK (.int 1))) [some (.ref ro.length), some (frD n l), some (kD kv), none, none, none, none] ro w = .ok (l.map prD) w := fun w => by simp [frD]
  rw [x_seq, x_for, it1, st_ok, g1, oan_nx, x_seq]
  have a4 : (sSetF "Model" "_values" (cVar 0) (cDNew)) [some (.ref ro.length), some (frD n l), some (kD kv), e3, e4, none, none] ro (.ins "Model" ["_frame", "_seen"] [frD n l, .ref (ro.length + (n + 1))] :: ((rowsOf n l).map nsD ++ .lst ((List.range n).map fun i => .ref (ro.length + (1 + i))) :: [])) =
      .go .nx [some (.ref ro.length), some (frD n l), some (kD kv), e3, e4, none, none] ((.ins "Model" ["_frame", "_seen", "_values"] [frD n l, .ref (ro.length + (n + 1)), .ref (ro.length + (n + 2))] :: ((rowsOf n l).map nsD ++ [.lst ((List.range n).map fun i => .ref (ro.length + (1 + i)))])) ++ [vD (keptS [])]) := by
    have z := setF_at (f := "_values") (v := .ref (ro.length + (n + 2))) (n := ro.length) (ro := ro) (w := .ins "Model" ["_frame", "_seen"] [frD n l, .ref (ro.length + (n + 1))] :: ((rowsOf n l).map nsD ++ .lst ((List.range n).map fun i => .ref (ro.length + (1 + i))) :: []) ++ [.dic [] []]) (c := "Model") (ns := ["_frame", "_seen"]) (xs := [frD n l, .ref (ro.length + (n + 1))]) (Nat.lt_irrefl _) (by simp) (by decide)
    have lr : (rowsOf n l).length = n := by simp [Fx.rowsOf]
    rw [x_setF]
    simp only [x_dnew, st_ok, x_var, List.getElem?_cons_zero, ofO_ss, List.length_cons, List.length_append, List.length_map, lr, List.length_nil]
    rw [show n + (0 + 1) + 1 = n + 2 from rfl, z]
    simp only [st_ok, Nat.sub_self]
    congr 1
  rw [a4, oan_nx, x_forDX, x_for]
  have lr : (rowsOf n l).length = n := by simp [Fx.rowsOf]
  have k1 : cKeys 2 [some (.ref ro.length), some (frD n l), some (kD kv), e3, e4, none, none] ro ((.ins "Model" ["_frame", "_seen", "_values"] [frD n l, .ref (ro.length + (n + 1)), .ref (ro.length + (n + 2))] :: ((rowsOf n l).map nsD ++ [.lst ((List.range n).map fun i => .ref (ro.length + (1 + i)))])) ++ [vD (keptS [])]) = .ok (kv.map fun p => .str p.x) _ := x_keys rfl
  have g2 := vl_loop (m := m) (by omega) (n := n) (b := ro.length) (frs := [.tup (l.map prD)]) (pre := .ins "Model" ["_frame", "_seen", "_values"] [frD n l, .ref (ro.length + (n + 1)), .ref (ro.length + (n + 2))] :: ((rowsOf n l).map nsD ++ [.lst ((List.range n).map fun i => .ref (ro.length + (1 + i)))])) (ns := ["_frame", "_seen", "_values"]) (ys := [frD n l, .ref (ro.length + (n + 1)), .ref (ro.length + (n + 2))]) (ro := ro) (kv := kv) (k := n + 2) (e3 := e3) (e6 := none) nd hs rfl rfl (by simp [lr]) (by simp [fieldV, ofString_inj]) hsz kv [] e4 none rfl
  rw [k1, st_ok]
  by_cases c : kv.all (KV.ok n) = true
  · rw [if_pos c] at g2 ⊢
    obtain ⟨e4', e5', g2⟩ := g2
    exact (congrArg (fun o => (OS.calmX o).fin) g2).trans rfl
  · rw [if_neg c] at g2 ⊢
    obtain ⟨env', w', g2⟩ := g2
    refine ⟨w', ?_⟩
    exact (congrArg (fun o => (OS.calmX o).fin) g2).trans rfl
theorem make_gen {m : Nat} (hm : 1 < m) {n : Nat} {l : List (Nat × Nat)} {kv : List KV} (h0 : 0 < n) (hn : n < 64) (hl : PairsOk n l) (nd : (kv.map (·.x)).Nodup) (ro w : List D) (hs : ∀ p ∈ kv, (∀ w', see (ro ++ w) w' p.r = .lst (p.l.map .int)) ∧ p.l.length < 64) (hsz : kv.length < 1000) :
    pureD (mkD "Model" (runDef 3 7 (b_Model_init (ev m)))) [frD n l, kD kv] ro w = if kv.all (KV.ok n) = true then .ok (modD n l (toN kv)) w else .exn "InvalidModel" [] [] w := by
  have h := init_gen hm h0 hn hl nd (ro ++ w) hs hsz
  unfold pureD mkD
  simp only [List.length_nil, Nat.add_zero, List.nil_append]
  by_cases c : kv.all (KV.ok n) = true
  · rw [if_pos c] at h ⊢
    rw [h]
    show (match D.tell (told (ro ++ w).length (initW (ro ++ w).length n l (toN kv)) 4) (.ref (ro ++ w).length) with | some d' => Out.ok d' w | none => .no) = _
    rw [show D.tell (told (ro ++ w).length (initW (ro ++ w).length n l (toN kv)) 4) (.ref (ro ++ w).length) = told (ro ++ w).length (initW (ro ++ w).length n l (toN kv)) 4 (ro ++ w).length from rfl, told_model]
  · rw [if_neg c] at h ⊢
    obtain ⟨w', h⟩ := h
    rw [h]
    rfl
/-! ### the law's tools on lists that may change -/
theorem srt_mem {l : List Nat} {x : Nat} : x ∈ srt l ↔ x ∈ l := by
  show x ∈ setK _ l ↔ _
  rw [mem_setK fun x _ y _ h => by have h : (x : Int) = y := h; omega]
abbrev A2 (A : Mo) (v : List (Str × List Nat)) : Mo := ⟨A.n, A.s, keptS v⟩
theorem A2_kept {A : Mo} {v : List (Str × List Nat)} : (A2 A v).kept = keptS v := by
  show (keptS v).filter _ = _
  refine List.filter_eq_self.mpr fun p hp => ?_
  unfold keptS at hp
  obtain ⟨q, hq, rfl⟩ := List.mem_map.mp hp
  obtain ⟨_, h⟩ := List.mem_filter.mp hq
  cases e : q.2 with
  | nil => rw [e] at h; cases h
  | cons a l =>
    have : a ∈ srt (a :: l) := srt_mem.mpr (by simp)
    cases e2 : srt (a :: l) with
    | nil => rw [e2] at this; cases this
    | cons b l2 =>
      rfl
theorem A2_prog {A : Mo} {v : List (Str × List Nat)} : modD A.n A.pairs v = (A2 A v).progD := by
  unfold modD Mo.progD
  rw [A2_kept, Mo.rows_eq, List.map_map]
  rfl
theorem A2_good {A : Mo} (hA : A.Good) {v : List (Str × List Nat)} (nd : (v.map (·.1)).Nodup) (hv : ∀ p ∈ v, ∀ i ∈ p.2, i < A.n) (hz : v.length < 100) : (A2 A v).Good where
  pos := hA.pos
  few := hA.few
  nd := by
    have e : (keptS v).map (·.1) = (v.filter fun p => !p.2.isEmpty).map (·.1) := by
      unfold keptS
      rw [List.map_map]
      rfl
    show ((keptS v).map (·.1)).Nodup
    rw [e]
    exact (List.Sublist.map _ List.filter_sublist).nodup nd
  asc := fun p hp => by
    replace hp : p ∈ keptS v := hp
    unfold keptS at hp
    obtain ⟨q, hq, rfl⟩ := List.mem_map.mp hp
    exact ⟨srt_asc _, fun w hw => hv q (List.mem_filter.mp hq).1 w (srt_mem.mp hw)⟩
  short := by
    show (keptS v).length < 100
    unfold keptS
    rw [List.length_map]
    have := List.length_filter_le (fun p : Str × List Nat => !p.2.isEmpty) v
    omega
  prs := hA.prs
/-! ### reading -/
theorem tell_two {s : SF} {env env' : Fx.Env} {ro x : List D} {i j : Nat} {v v2 d d2 : D} (h : s env ro [] = .go .nx ((env'.set i (some v)).set j (some v2)) x) (he : undE ro.length env' = true) (hv : D.tell (told ro.length x 4) v = some d) (hv2 : D.tell (told ro.length x 4) v2 = some d2) :
    sTell s env ro [] = .go .nx ((env'.set i (some d)).set j (some d2)) [] := by
  have hc : cutW ro.length ([] : List D).length x = some [] := by
    unfold cutW
    rw [if_pos]
    · rfl
    · exact ⟨Nat.zero_le _, rfl⟩
  rw [x_tell h hc]
  congr 1
  unfold tellE
  rw [List.length_nil, Nat.add_zero, List.drop_zero, List.map_set, List.map_set, undE_tell (k := 3) he, Option.bind_some, Option.bind_some, hv, hv2]
theorem split_cp {X y : Str} {c : Nat} (hy : cp y = [c]) (hc : c < 256) {parts : List (List Nat)} (hne : parts ≠ []) (h : ∀ p ∈ parts, c ∉ p) (hX : cp X = TL.joinL [c] parts) : Txt.split X y = parts.map mkS := by
  have e : (Txt.split X y).map cp = parts := by
    have s := TL.split_spl X y (by show cp y ≠ []; rw [hy]; simp) (TL.kind_ok (by rw [← Array.all_toList]; show (cp y).all _ = true; rw [hy]; simpa using hc))
    have s' : (Txt.split X y).map cp = TL.spl (cp y) 0 [] (cp X) := s
    rw [s', hy, hX]
    exact TL.spl_join hne h
  rw [← e, List.map_map]
  exact ((List.map_congr_left (g := id) fun x _ => mk_cp x).trans (List.map_id _)).symm
theorem mtx_join : ∀ L : List (List (List Nat)), mtx L = TL.joinL [10] (L.map lnC ++ [[]])
  | [] => rfl
  | ws :: L => by
    have e : mtx (ws :: L) = (lnC ws ++ [10]) ++ mtx L := rfl
    rw [e, mtx_join L]
    cases L with
    | nil => simp [TL.joinL]
    | cons v L =>
      show _ = lnC ws ++ ([10] ++ TL.joinL [10] (lnC v :: (L.map lnC ++ [[]])))
      simp
/-- words without spaces and ends of lines -/
def WOk (ws : List (List Nat)) : Prop := ws ≠ [] ∧ ∀ x ∈ ws, 32 ∉ x ∧ 10 ∉ x
theorem ln_free {ws : List (List Nat)} (h : WOk ws) : 10 ∉ lnC ws := by
  unfold lnC
  cases ws with
  | nil => simp [TL.joinL]
  | cons x ws =>
    rw [join_ln]
    intro hm
    rcases List.mem_append.mp hm with hm | hm
    · exact (h.2 x (by simp)).2 hm
    · obtain ⟨l, hl, hm⟩ := List.mem_flatten.mp hm
      obtain ⟨y, hy, rfl⟩ := List.mem_map.mp hl
      rcases List.mem_cons.mp hm with e | hm
      · cases e
      · exact (h.2 y (by simp [hy])).2 hm
theorem split_ws {ws : List (List Nat)} (h : WOk ws) : Txt.split (mkS (lnC ws)) " " = ws.map mkS :=
  split_cp (c := 32) (by decide) (by decide) h.1 (fun p hp => (h.2 p hp).1) rfl
section
variable {n : Nat} {R : List D}
/-- the number that a word tells -/
def digs : List Nat → Int → Int
  | [], v => v
  | c :: cs, v => if 48 ≤ c ∧ c ≤ 57 then digs cs (10 * v + ((c : Int) - 48)) else -1
def numI (x : List Nat) : Int := if x.length = 0 ∨ 6 < x.length ∨ (1 < x.length ∧ x.head? = some 48) then -1 else digs x 0
def Low (x : List Nat) : Prop := ∀ c ∈ x, c < 128
theorem find_c {c : Nat} (h : c < 128) : Txt.find "0123456789" (mkS [c]) = if 48 ≤ c ∧ c ≤ 57 then (c : Int) - 48 else -1 := by
  have key : ∀ c < 128, Txt.find "0123456789" (mkS [c]) = if 48 ≤ c ∧ c ≤ 57 then ((c : Nat) : Int) - 48 else -1 := by decide +kernel
  exact key c h
abbrev nE (X : Str) (v : Int) (e3 e4 : Option D) : Fx.Env := [some (.str X), some (.int 6), some (.int v), e3, e4]
def dgB : SF := sSeq (sSet 4 (cStr gFind (cK (.str "0123456789")) (cArgs [cVar 3]))) (sSeq (sIf (cTest (cBin gLt (cVar 4) (cK (.int 0)))) (sRet (cUn gNeg (cK (.int 1)))) (sNil)) (sSet 2 (cBin gAdd (cBin gMul (cK (.int 10)) (cVar 2)) (cVar 4))))
theorem dg_loop {X : Str} {w : List D} : ∀ (cs : List Nat) (v : Int) (e3 e4 : Option D), Low cs →
    (∃ e3' e4', forL (.nm 3) dgB (cs.map fun c => .str (mkS [c])) (nE X v e3 e4) R w = .go .nx (nE X (digs cs v) e3' e4') w) ∨ (digs cs v = -1 ∧ ∃ env', forL (.nm 3) dgB (cs.map fun c => .str (mkS [c])) (nE X v e3 e4) R w = .go (.rt (.int (-1))) env' w)
  | [], v, e3, e4, _ => .inl ⟨e3, e4, rfl⟩
  | c :: cs, v, e3, e4, h => by
    have hc := h c (by simp)
    have fd : ∀ e4, cStr gFind (cK (.str "0123456789")) (cArgs [cVar 3]) (nE X v (some (.str (mkS [c]))) e4) R w = .ok (.int (if 48 ≤ c ∧ c ≤ 57 then (c : Int) - 48 else -1)) w := fun e4 => by
      rw [x_str (x := "0123456789") rfl]
      simp only [nE, x_args, x_args0, x_var, List.getElem?_cons_zero, List.getElem?_cons_succ, ofO_ss, an_ok]
      rw [find_ok, find_c hc]
    have t3 : ∀ k : Int, cTest (cBin gLt (cVar 4) (cK (.int 0))) (nE X v (some (.str (mkS [c]))) (some (.int k))) R w = .ok (decide (k < 0)) w := fun k => by
      simp only [nE, x_test, x_bin, x_k, x_var, List.getElem?_cons_zero, List.getElem?_cons_succ, ofO_ss, an_ok, see_int, lt_int, bool_bl]
    rw [List.map_cons, for_nm, show (nE X v e3 e4).set 3 (some (.str (mkS [c]))) = nE X v (some (.str (mkS [c]))) e4 from rfl]
    have st : dgB (nE X v (some (.str (mkS [c]))) e4) R w = (sSeq (sIf (cTest (cBin gLt (cVar 4) (cK (.int 0)))) (sRet (cUn gNeg (cK (.int 1)))) (sNil)) (sSet 2 (cBin gAdd (cBin gMul (cK (.int 10)) (cVar 2)) (cVar 4)))) (nE X v (some (.str (mkS [c]))) (some (.int (if 48 ≤ c ∧ c ≤ 57 then (c : Int) - 48 else -1)))) R w := by
      unfold dgB
      rw [x_seq, x_set, fd, st_ok, oan_nx]
      rfl
    rw [st]
    by_cases d : 48 ≤ c ∧ c ≤ 57
    · rw [if_pos d]
      have a1 : cBin gAdd (cBin gMul (cK (.int 10)) (cVar 2)) (cVar 4) (nE X v (some (.str (mkS [c]))) (some (.int ((c : Int) - 48)))) R w = .ok (.int (10 * v + ((c : Int) - 48))) w := by
        have mu : gMul (.int 10) (.int v) R w = .ok (.int (10 * v)) w := by
          rw [mul_int, if_pos (.inl (by decide))]
        simp only [nE, x_bin, x_k, x_var, List.getElem?_cons_zero, List.getElem?_cons_succ, ofO_ss, an_ok, see_int, mu, add_int]
      rw [x_seq, x_ifS, t3, st_ok, decide_eq_false (by omega), if_neg Bool.false_ne_true, x_nil, oan_nx, x_set, a1, st_ok, tn_nx]
      have ih := dg_loop (X := X) (w := w) cs (10 * v + ((c : Int) - 48)) (some (.str (mkS [c]))) (some (.int ((c : Int) - 48))) (fun a ha => h a (by simp [ha]))
      have ed : digs (c :: cs) v = digs cs (10 * v + ((c : Int) - 48)) := by
        rw [digs, if_pos d]
      rw [ed]
      exact ih
    · rw [if_neg d]
      refine .inr ⟨by rw [digs, if_neg d], nE X v (some (.str (mkS [c]))) (some (.int (-1))), ?_⟩
      rw [x_seq, x_ifS, t3, st_ok, if_pos (by decide)]
      rfl
theorem cp_mk (l : List Nat) : cp (mkS l) = l := rfl
theorem mk_eq {x y : List Nat} (h : mkS x = mkS y) : x = y := by
  have := congrArg cp h
  rwa [cp_mk, cp_mk] at this
theorem e_numG (hn : 0 < n) {x : List Nat} (hx : Low x) (hl : x.length ≤ 100000) {ro w : List D} : ev n .f_number_of [.str (mkS x), .int 6] ro w = .ok (.int (numI x)) w := by
  obtain ⟨m, rfl⟩ : ∃ m, n = m + 1 := ⟨n - 1, by omega⟩
  generalize hR : ro ++ w = R
  have hX : (mkS x).length ≤ 16777216 := by
    rw [mk_len]
    omega
  have l1 : (mkS x).length = x.length := mk_len x
  have ln := fun w => len_X (X := mkS x) (ro := R) (w := w) hX
  rw [l1] at ln
  have run : runDef 2 5 (b_number_of (ev m)) [.str (mkS x), .int 6] R [] = .ok (.int (numI x)) [] := by
    rw [x_def]
    simp only [List.length_cons, List.length_nil, Nat.zero_add, Nat.reduceAdd, if_true, List.map_cons, List.map_nil, Nat.reduceSub, List.replicate, List.cons_append, List.nil_append, List.append_nil]
    unfold b_number_of
    have t1 : cTest (cChain gLe gLe (cK (.int 1)) (cCall (one gLen) (cArgs [cVar 0])) (cVar 1)) [some (.str (mkS x)), some (.int 6), none, none, none] R [] = .ok (decide (1 ≤ x.length ∧ x.length ≤ 6)) [] := by
      have q1 : gLe (.int 1) (.int ((x.length : Nat) : Int)) R [] = .ok (.bl (decide (1 ≤ x.length))) [] := by
        rw [le_int]
        congr 2
        exact decide_eq_decide.mpr (by omega)
      have q2 : gLe (.int ((x.length : Nat) : Int)) (.int 6) R [] = .ok (.bl (decide (x.length ≤ 6))) [] := by
        rw [le_int]
        congr 2
        exact decide_eq_decide.mpr (by omega)
      rw [x_test, x_chain]
      simp only [x_k, an_ok, x_call, x_args, x_args0, x_var, List.getElem?_cons_zero, List.getElem?_cons_succ, ofO_ss, x_one, see_str, ln, see_int, q1, q2, bool_bl, see_bl, truth_bl]
      by_cases c : 1 ≤ x.length
      · simp [c]
      · simp [c]
    have t2 : cTest (cBin gGt (cCall (one gLen) (cArgs [cVar 0])) (cK (.int 1))) [some (.str (mkS x)), some (.int 6), none, none, none] R [] = .ok (decide (1 < x.length)) [] := by
      simp only [x_test, x_bin, x_k, an_ok, x_call, x_args, x_args0, x_var, List.getElem?_cons_zero, ofO_ss, x_one, see_str, ln, see_int, gt_int, bool_bl]
      congr 1
      exact decide_eq_decide.mpr (by omega)
    have t3 : 1 < x.length → cTest (cBin gEq (cBin gIx (cVar 0) (cK (.int 0))) (cK (.str "0"))) [some (.str (mkS x)), some (.int 6), none, none, none] R [] = .ok (decide (x.head? = some 48)) [] := fun h => by
      cases x with
      | nil => simp at h
      | cons c r =>
        have ix : gIx (.str (mkS (c :: r))) (.int 0) R [] = .ok (.str (mkS [c])) [] := ix_cp (i := 0) hX rfl
        have sc : SOk (mkS [c]) := str_ok (by
          rw [cp_mk]
          intro a ha
          rw [List.mem_singleton.mp ha]
          have := hx c (by simp)
          omega)
        simp only [x_test, x_bin, x_k, x_var, List.getElem?_cons_zero, ofO_ss, an_ok, see_str, see_int, ix, eq_str sc ok_lit, bool_bl]
        congr 1
        refine decide_eq_decide.mpr ⟨fun e => ?_, fun e => ?_⟩
        · have : [c] = [48] := mk_eq (e.trans (show ("0" : Str) = mkS [48] by decide))
          simpa using this
        · have : c = 48 := by simpa using e
          rw [this]
          decide
    have test : cOrT (cNotT (cTest (cChain gLe gLe (cK (.int 1)) (cCall (one gLen) (cArgs [cVar 0])) (cVar 1)))) (cAndT (cTest (cBin gGt (cCall (one gLen) (cArgs [cVar 0])) (cK (.int 1)))) (cTest (cBin gEq (cBin gIx (cVar 0) (cK (.int 0))) (cK (.str "0"))))) [some (.str (mkS x)), some (.int 6), none, none, none] R [] = .ok (decide (x.length = 0 ∨ 6 < x.length ∨ (1 < x.length ∧ x.head? = some 48))) [] := by
      rw [x_orT, x_notT, t1, an_ok]
      by_cases c : 1 ≤ x.length ∧ x.length ≤ 6
      · rw [decide_eq_true c, an_ok, Bool.not_true, if_neg Bool.false_ne_true, x_andT, t2, an_ok]
        by_cases d : 1 < x.length
        · rw [decide_eq_true d, if_pos rfl, t3 d]
          congr 1
          exact decide_eq_decide.mpr ⟨fun e => .inr (.inr ⟨d, e⟩), fun e => by
            rcases e with e | e | e
            · omega
            · omega
            · exact e.2⟩
        · rw [decide_eq_false d, if_neg Bool.false_ne_true]
          congr 1
          exact (decide_eq_false (by omega)).symm
      · rw [decide_eq_false c, an_ok, Bool.not_false, if_pos rfl]
        congr 1
        exact (decide_eq_true (by omega)).symm
    rw [x_seq, x_ifS, test, st_ok]
    by_cases b : x.length = 0 ∨ 6 < x.length ∨ (1 < x.length ∧ x.head? = some 48)
    · rw [decide_eq_true b, if_pos rfl]
      unfold numI
      rw [if_pos b]
      rfl
    · rw [decide_eq_false b, if_neg Bool.false_ne_true, x_nil, oan_nx, x_seq, x_set, x_k, st_ok, oan_nx]
      simp only [List.set_cons_succ, List.set_cons_zero]
      unfold numI
      rw [if_neg b]
      have it : cSigns (cVar 0) [some (.str (mkS x)), some (.int 6), some (.int 0), none, none] R [] = .ok (x.map fun c => .str (mkS [c])) [] := rfl
      rw [x_seq, x_for, it, st_ok]
      rcases dg_loop (R := R) (X := mkS x) (w := []) x 0 none none hx with ⟨e3', e4', h⟩ | ⟨hd, env', h⟩
      · have h' : forL (.nm 3) _ (x.map fun c => .str (mkS [c])) [some (.str (mkS x)), some (.int 6), some (.int 0), none, none] R [] = _ := h
        unfold dgB at h'
        rw [h', oan_nx]
        rfl
      · have h' : forL (.nm 3) _ (x.map fun c => .str (mkS [c])) [some (.str (mkS x)), some (.int 6), some (.int 0), none, none] R [] = _ := h
        unfold dgB at h'
        rw [h', hd]
        rfl
  rw [show ev (m + 1) .f_number_of = pureD (runDef 2 5 (b_number_of (ev m))) from rfl]
  unfold pureD
  rw [hR]
  simp only [run]
  rfl
end
/-! the lines -/
section
variable {n : Nat} {R : List D}
abbrev iD (l : List Int) : D := .lst (l.map .int)
theorem iD_und {b : Nat} {l : List Int} : D.under b (iD l) = true := ints_und
abbrev rE (X : Str) (L : D) (wo : Int) (j a : Nat) (e5 e6 e7 e8 e9 e11 : Option D) : Fx.Env := [some (.str X), some L, some (.int wo), some (.ref (j + 0)), some (.ref (j + 1)), e5, e6, e7, e8, e9, none, e11]
def rdB (n : Nat) : SF := sSeq (sSet 7 (cStr gSplit (cVar 6) (cArgs [cK (.str " ")])))
  (sSeq (sSet 8 (cIf (cTest (cBin gEq (cBin gIx (cVar 7) (cK (.int 0))) (cK (.str "true")))) (cSl (cVar 7) (cPart (cK (.int 2))) (cNoPart)) (cSl (cVar 7) (cPart (cK (.int 1))) (cNoPart))))
  (sSeq (sSet 9 (cComp (.nm 11) [11] (cSeq (cVar 8)) (cYes) (cCall (fun ds => if ds.length = 2 then ev n .f_number_of ds else M.no) (cArgs [cVar 11, cK g_MAX_DIGITS])) kStill))
  (sIf (cAndT (cTest (cBin gEq (cBin gIx (cVar 7) (cK (.int 0))) (cK (.str "worlds")))) (cAndT (cTest (cBin gEq (cVar 5) (cK (.int 0)))) (cTest (cBin gEq (cCall (one gLen) (cArgs [cVar 9])) (cK (.int 1)))))) (sSet 2 (cBin gIx (cVar 9) (cK (.int 0)))) (sIf (cAndT (cTest (cBin gEq (cBin gIx (cVar 7) (cK (.int 0))) (cK (.str "sees")))) (cAndT (cTest (cBin gGt (cVar 5) (cK (.int 0)))) (cTest (cBin gEq (cCall (one gLen) (cArgs [cVar 9])) (cK (.int 2)))))) (sExpr (cMl gAppend (cVar 3) (cArgs [cTup (cArgs [cBin gIx (cVar 9) (cK (.int 0)), cBin gIx (cVar 9) (cK (.int 1))])]))) (sIf (cAndT (cTest (cBin gEq (cBin gIx (cVar 7) (cK (.int 0))) (cK (.str "true")))) (cAndT (cTest (cBin gGt (cVar 5) (cK (.int 0)))) (cAndT (cTest (cBin gGt (cCall (one gLen) (cArgs [cVar 9])) (cK (.int 0)))) (cAndT (cTru (cCall (fun ds => if ds.length = 1 then ev n .f_is_name ds else M.no) (cArgs [cBin gIx (cVar 7) (cK (.int 1))]))) (cTIn true (cBin gIx (cVar 7) (cK (.int 1))) (cVar 4)))))) (sDPutF (cVar 4) (cBin gIx (cVar 7) (cK (.int 1))) (cVar 9)) (sRaise "InvalidText"))))))
abbrev wsD (ws : List (List Nat)) : D := .lst ((ws.map mkS).map .str)
theorem ws_und {ws : List (List Nat)} (b : Nat) : D.under b (wsD ws) = true := unders_iff.mpr fun d hd => by
  obtain ⟨x, _, rfl⟩ := List.mem_map.mp hd
  rfl
/-- a line cut into its words, with the numbers in it -/
theorem rd_start (hn : 0 < n) {X : Str} {L : D} {wo : Int} {a : Nat} {e7 e8 e9 e11 : Option D} {ws known : List (List Nat)} {x : List Nat} {w : List D} (hw : WOk ws) (h0 : ws[0]? = some x) (hx : SOk (mkS x)) (hk : known = if mkS x = "true" then ws.drop 2 else ws.drop 1) (h10 : ∀ y ∈ ws, Low y ∧ y.length ≤ 1000) (hll : ws.length ≤ 1000) (hln : (lnC ws).length ≤ 100000) :
    ∃ e8', (∀ b, D.under b e8' = true) ∧ ∀ T : SF, (sSeq (sSet 7 (cStr gSplit (cVar 6) (cArgs [cK (.str " ")])))
      (sSeq (sSet 8 (cIf (cTest (cBin gEq (cBin gIx (cVar 7) (cK (.int 0))) (cK (.str "true")))) (cSl (cVar 7) (cPart (cK (.int 2))) (cNoPart)) (cSl (cVar 7) (cPart (cK (.int 1))) (cNoPart))))
      (sSeq (sSet 9 (cComp (.nm 11) [11] (cSeq (cVar 8)) (cYes) (cCall (fun ds => if ds.length = 2 then ev n .f_number_of ds else M.no) (cArgs [cVar 11, cK g_MAX_DIGITS])) kStill)) T))) (rE X L wo R.length a (some (.int (a : Nat))) (some (.str (mkS (lnC ws)))) e7 e8 e9 e11) R w =
      T (rE X L wo R.length a (some (.int (a : Nat))) (some (.str (mkS (lnC ws)))) (some (wsD ws)) (some e8') (some (iD (known.map numI))) e11) R w := by
  have hs : sizeLine = 16777216 := rfl
  refine ⟨wsD known, fun b => ws_und b, fun T => ?_⟩
  have sp : ∀ e7 e8 e9 e11, cStr gSplit (cVar 6) (cArgs [cK (.str " ")]) (rE X L wo R.length a (some (.int (a : Nat))) (some (.str (mkS (lnC ws)))) e7 e8 e9 e11) R w = .ok (wsD ws) w := fun e7 e8 e9 e11 => by
    rw [x_str (x := mkS (lnC ws)) rfl, x_args, x_k, an_ok, x_args0, an_ok, an_ok, split_ok (by decide) (by rw [mk_len]; omega), split_ws hw]
  have ix0 : gIx (wsD ws) (.int 0) R w = .ok (.str (mkS x)) w := by
    show gIx (.lst ((ws.map mkS).map .str)) (.int ((0 : Nat) : Int)) R w = _
    rw [ix_lst, Fx.atI_nat, List.getElem?_map, List.getElem?_map, h0]
    rfl
  have sw : see R w (wsD ws) = wsD ws := rfl
  have tt : ∀ e8 e9 e11, cTest (cBin gEq (cBin gIx (cVar 7) (cK (.int 0))) (cK (.str "true"))) (rE X L wo R.length a (some (.int (a : Nat))) (some (.str (mkS (lnC ws)))) (some (wsD ws)) e8 e9 e11) R w = .ok (decide (mkS x = "true")) w := fun e8 e9 e11 => by
    simp only [rE, x_test, x_bin, x_k, x_var, List.getElem?_cons_zero, List.getElem?_cons_succ, ofO_ss, an_ok, sw, see_int, ix0, see_str, eq_str (x := mkS x) (y := "true") hx ok_lit, bool_bl]
  have sl : ∀ k : Nat, gSl (wsD ws) (some (k : Int)) none R w = .ok (wsD (ws.drop k)) w := fun k => by
    show gSl (.lst ((ws.map mkS).map .str)) (some (k : Int)) none R w = _
    rw [sl_lst]
    have e : ∀ (l : List D), cut l (some (k : Int)) none = l.drop k := fun l => by
      unfold cut
      rw [HT.sIx_none, HT.sIx_nat]
      by_cases c : k ≤ l.length
      · rw [Nat.min_eq_left c, List.take_of_length_le (by rw [List.length_drop]; omega)]
      · rw [Nat.min_eq_right (show l.length ≤ k by omega), List.drop_of_length_le (Nat.le_refl _), List.drop_of_length_le (by omega)]
        simp
    rw [e, ← List.map_drop, ← List.map_drop]
  have kn : ∀ e8 e9 e11, cIf (cTest (cBin gEq (cBin gIx (cVar 7) (cK (.int 0))) (cK (.str "true")))) (cSl (cVar 7) (cPart (cK (.int 2))) (cNoPart)) (cSl (cVar 7) (cPart (cK (.int 1))) (cNoPart)) (rE X L wo R.length a (some (.int (a : Nat))) (some (.str (mkS (lnC ws)))) (some (wsD ws)) e8 e9 e11) R w = .ok (wsD known) w := fun e8 e9 e11 => by
    have s1 : gSl (wsD ws) (some (1 : Int)) none R w = .ok (wsD (ws.drop 1)) w := sl 1
    have s2 : gSl (wsD ws) (some (2 : Int)) none R w = .ok (wsD (ws.drop 2)) w := sl 2
    rw [x_if, tt, an_ok]
    by_cases c : mkS x = "true"
    · rw [decide_eq_true c, if_pos rfl]
      rw [if_pos c] at hk
      rw [hk]
      simp only [rE, x_sl, x_part, x_noPart, x_k, x_var, List.getElem?_cons_zero, List.getElem?_cons_succ, ofO_ss, an_ok, sw, partV_int, s2, see_int]
    · rw [decide_eq_false c, if_neg Bool.false_ne_true]
      rw [if_neg c] at hk
      rw [hk]
      simp only [rE, x_sl, x_part, x_noPart, x_k, x_var, List.getElem?_cons_zero, List.getElem?_cons_succ, ofO_ss, an_ok, sw, partV_int, s1, see_int]
  have km : ∀ y ∈ known, Low y ∧ y.length ≤ 1000 := fun y hy => by
    rw [hk] at hy
    by_cases c : mkS x = "true"
    · rw [if_pos c] at hy
      exact h10 y (List.mem_of_mem_drop hy)
    · rw [if_neg c] at hy
      exact h10 y (List.mem_of_mem_drop hy)
  have kl : known.length ≤ 1000 := by
    rw [hk]
    by_cases c : mkS x = "true"
    · rw [if_pos c, List.length_drop]
      omega
    · rw [if_neg c, List.length_drop]
      omega
  have cm : ∀ e9 e11, cComp (.nm 11) [11] (cSeq (cVar 8)) (cYes) (cCall (fun ds => if ds.length = 2 then ev n .f_number_of ds else M.no) (cArgs [cVar 11, cK g_MAX_DIGITS])) kStill (rE X L wo R.length a (some (.int (a : Nat))) (some (.str (mkS (lnC ws)))) (some (wsD ws)) (some (wsD known)) e9 e11) R w = .ok (iD (known.map numI)) w := fun e9 e11 => by
    have it : cSeq (cVar 8) (rE X L wo R.length a (some (.int (a : Nat))) (some (.str (mkS (lnC ws)))) (some (wsD ws)) (some (wsD known)) e9 e11) R w = .ok (known.map fun i => .str (mkS i)) w := by
      show Out.ok ((known.map mkS).map D.str) w = _
      rw [List.map_map]
      rfl
    have c := comp_all (k := 11) (env := wipeE (rE X L wo R.length a (some (.int (a : Nat))) (some (.str (mkS (lnC ws)))) (some (wsD ws)) (some (wsD known)) e9 e11) [11]) (ro := R) (w := w) (fa := cCall (fun ds => if ds.length = 2 then ev n .f_number_of ds else M.no) (cArgs [cVar 11, cK g_MAX_DIGITS])) (h := fun i => D.str (mkS i)) (g := fun y => D.int (numI y)) (l := known) fun i hi => by
      exact e_numG hn (km i hi).1 (by have := (km i hi).2; omega)
    rw [x_comp, it, an_ok, if_pos (by rw [List.length_map]; omega), c, an_ok, x_still, iD, List.map_map]
    rfl
  rw [x_seq, x_set, sp, st_ok, oan_nx]
  have g7 : (rE X L wo R.length a (some (.int (a : Nat))) (some (.str (mkS (lnC ws)))) e7 e8 e9 e11).set 7 (some (wsD ws)) = rE X L wo R.length a (some (.int (a : Nat))) (some (.str (mkS (lnC ws)))) (some (wsD ws)) e8 e9 e11 := rfl
  rw [g7, x_seq, x_set, kn, st_ok, oan_nx]
  have g8 : (rE X L wo R.length a (some (.int (a : Nat))) (some (.str (mkS (lnC ws)))) (some (wsD ws)) e8 e9 e11).set 8 (some (wsD known)) = rE X L wo R.length a (some (.int (a : Nat))) (some (.str (mkS (lnC ws)))) (some (wsD ws)) (some (wsD known)) e9 e11 := rfl
  rw [g8, x_seq, x_set, cm, st_ok, oan_nx]
  rfl
end
/-! ### one line, whatever it is -/
section
variable {n : Nat} {R : List D}
def BadN (x : List Nat) : Prop := x.length = 0 ∨ 12 < x.length ∨ ∃ c r, x = c :: r ∧ leB c = false
def nmB (x : List Nat) : Bool := match x with
  | [] => false
  | c :: r => decide (r.length < 12) && leB c && (c :: r).all alB
theorem nmB_t {x : List Nat} (h : NameL x) : nmB x = true := by
  obtain ⟨h1, h2, c, r, rfl, hc⟩ := h
  have h2' : (c :: r).all alB = true := List.all_eq_true.mpr h2
  simp only [List.length_cons] at h1
  show (decide (r.length < 12) && leB c && (c :: r).all alB) = true
  rw [decide_eq_true (by omega), hc, h2']
  rfl
theorem nmB_f {x : List Nat} (h : BadN x) : nmB x = false := by
  cases x with
  | nil => rfl
  | cons c r =>
    show (decide (r.length < 12) && leB c && (c :: r).all alB) = false
    rcases h with h | h | ⟨c', r', e, hc⟩
    · simp at h
    · simp only [List.length_cons] at h
      rw [decide_eq_false (by omega)]
      rfl
    · cases e
      rw [hc]
      simp
theorem e_isname_no {x : List Nat} (hx : BadN x) (hl : x.length ≤ 100000) {ro w : List D} : ev (n + 1) .f_is_name [.str (mkS x)] ro w = .ok (.bl false) w := by
  have l1 : (mkS x).length = x.length := mk_len x
  have hX : (mkS x).length ≤ 16777216 := by omega
  have ln := len_X (ro := ro) (w := w) hX
  rw [l1] at ln
  have sX : see ro w (.str (mkS x)) = .str (mkS x) := rfl
  have sM : see ro w g_MAX_NAME = g_MAX_NAME := rfl
  have sL : see ro w g_LETTERS = g_LETTERS := rfl
  rw [q_is_name, x_def]
  simp only [List.length_cons, List.length_nil, Nat.zero_add, Nat.reduceAdd, if_true, List.map_cons, List.map_nil, Nat.reduceSub, List.replicate, List.cons_append, List.nil_append, List.append_nil]
  unfold b_is_name
  have t1 : cNotT (cTest (cChain gLe gLe (cK (.int 1)) (cCall (one gLen) (cArgs [cVar 0])) (cK g_MAX_NAME))) [some (.str (mkS x)), none] ro w = .ok (!decide (1 ≤ x.length ∧ x.length ≤ 12)) w := by
    have q1 : gLe (.int 1) (.int ((x.length : Nat) : Int)) ro w = .ok (.bl (decide (1 ≤ x.length))) w := by
      rw [le_int]
      congr 2
      exact decide_eq_decide.mpr (by omega)
    have q2 : gLe (.int ((x.length : Nat) : Int)) g_MAX_NAME ro w = .ok (.bl (decide (x.length ≤ 12))) w := by
      show gLe (.int ((x.length : Nat) : Int)) (.int 12) ro w = _
      rw [le_int]
      congr 2
      exact decide_eq_decide.mpr (by omega)
    rw [x_notT, x_test, x_chain]
    simp only [x_k, an_ok, x_call, x_args, x_args0, x_var, List.getElem?_cons_zero, ofO_ss, x_one, sX, ln, see_int, q1, sM, q2, bool_bl, see_bl, truth_bl]
    by_cases c : 1 ≤ x.length
    · simp [c]
    · simp [c]
  rw [x_seq, x_ifS, x_orT, t1, an_ok]
  by_cases c : 1 ≤ x.length ∧ x.length ≤ 12
  · rw [decide_eq_true c, Bool.not_true, if_neg Bool.false_ne_true]
    obtain ⟨c', r, rfl, hc⟩ : ∃ c r, x = c :: r ∧ leB c = false := by
      rcases hx with h | h | h
      · omega
      · omega
      · exact h
    have ix : gIx (.str (mkS (c' :: r))) (.int 0) ro w = .ok (.str (mkS [c'])) w := ix_cp (i := 0) hX rfl
    have nl : gNotIn (.str (mkS [c'])) g_LETTERS ro w = .ok (.bl true) w := by
      have : gNotIn (.str (mkS [c'])) (.str leS) ro w = .ok (.bl (!leB c')) w := in_le
      rw [hc] at this
      exact this
    have t2 : cTest (cBin gNotIn (cBin gIx (cVar 0) (cK (.int 0))) (cK g_LETTERS)) [some (.str (mkS (c' :: r))), none] ro w = .ok true w := by
      simp only [x_test, x_bin, x_var, x_k, List.getElem?_cons_zero, ofO_ss, an_ok, sX, see_int, ix, see_str, sL, nl, bool_bl]
    rw [t2, st_ok, if_pos rfl]
    rfl
  · rw [decide_eq_false c, Bool.not_false, if_pos rfl, st_ok, if_pos rfl]
    rfl
theorem e_nm (hn : 0 < n) {x : List Nat} (h : NameL x ∨ BadN x) (hl : x.length ≤ 100000) {ro w : List D} : ev n .f_is_name [.str (mkS x)] ro w = .ok (.bl (nmB x)) w := by
  obtain ⟨m, rfl⟩ : ∃ m, n = m + 1 := ⟨n - 1, by omega⟩
  rcases h with h | h
  · rw [nmB_t h]
    exact e_isname h
  · rw [nmB_f h]
    exact e_isname_no h hl
structure RS where
  wo : Int
  ps : List (Int × Int)
  vs : List (Str × List Int)
def ipD (p : Int × Int) : D := .tup [.int p.1, .int p.2]
def vI (v : List (Str × List Int)) : D := .dic (v.map fun p => .str p.1) (v.map fun p => iD p.2)
def stD (st : RS) : List D := [.lst (st.ps.map ipD), vI st.vs]
def w0 (ws : List (List Nat)) : Str := mkS (ws.headD [])
def knw (ws : List (List Nat)) : List (List Nat) := if w0 ws = "true" then ws.drop 2 else ws.drop 1
def nms (ws : List (List Nat)) : List Int := (knw ws).map numI
def n1 (ws : List (List Nat)) : List Nat := ws.getD 1 []
def rdStep (a : Nat) (ws : List (List Nat)) (st : RS) : Option RS :=
  if w0 ws = "worlds" ∧ a = 0 ∧ (nms ws).length = 1 then some ⟨(nms ws).getD 0 0, st.ps, st.vs⟩
  else if w0 ws = "sees" ∧ 0 < a ∧ (nms ws).length = 2 then some ⟨st.wo, st.ps ++ [((nms ws).getD 0 0, (nms ws).getD 1 0)], st.vs⟩
  else if w0 ws = "true" ∧ 0 < a ∧ 0 < (nms ws).length ∧ nmB (n1 ws) = true ∧ mkS (n1 ws) ∉ st.vs.map (·.1) then some ⟨st.wo, st.ps, st.vs ++ [(mkS (n1 ws), nms ws)]⟩
  else none
def LOk (ws : List (List Nat)) : Prop := WOk ws ∧ (∀ x ∈ ws, Low x ∧ x.length ≤ 100) ∧ ws.length ≤ 100 ∧ (NameL (n1 ws) ∨ BadN (n1 ws))
theorem andT_ok {ta tb : Fx.Env → M Bool} {p q : Prop} [Decidable p] [Decidable q] {env : Fx.Env} {ro w : List D} (h1 : ta env ro w = .ok (decide p) w) (h2 : p → tb env ro w = .ok (decide q) w) : cAndT ta tb env ro w = .ok (decide (p ∧ q)) w := by
  rw [x_andT, h1, an_ok]
  by_cases c : p
  · rw [decide_eq_true c, if_pos rfl, h2 c]
    congr 1
    exact decide_eq_decide.mpr ⟨fun h => ⟨c, h⟩, fun h => h.2⟩
  · rw [decide_eq_false c, if_neg Bool.false_ne_true]
    congr 1
    exact (decide_eq_false fun h => c h.1).symm
theorem low_ok {x : List Nat} (h : Low x) : SOk (mkS x) := str_ok (by
  rw [cp_mk]
  intro a ha
  have := h a ha
  omega)
def rdT (n : Nat) : SF := sIf (cAndT (cTest (cBin gEq (cBin gIx (cVar 7) (cK (.int 0))) (cK (.str "worlds")))) (cAndT (cTest (cBin gEq (cVar 5) (cK (.int 0)))) (cTest (cBin gEq (cCall (one gLen) (cArgs [cVar 9])) (cK (.int 1)))))) (sSet 2 (cBin gIx (cVar 9) (cK (.int 0)))) (sIf (cAndT (cTest (cBin gEq (cBin gIx (cVar 7) (cK (.int 0))) (cK (.str "sees")))) (cAndT (cTest (cBin gGt (cVar 5) (cK (.int 0)))) (cTest (cBin gEq (cCall (one gLen) (cArgs [cVar 9])) (cK (.int 2)))))) (sExpr (cMl gAppend (cVar 3) (cArgs [cTup (cArgs [cBin gIx (cVar 9) (cK (.int 0)), cBin gIx (cVar 9) (cK (.int 1))])]))) (sIf (cAndT (cTest (cBin gEq (cBin gIx (cVar 7) (cK (.int 0))) (cK (.str "true")))) (cAndT (cTest (cBin gGt (cVar 5) (cK (.int 0)))) (cAndT (cTest (cBin gGt (cCall (one gLen) (cArgs [cVar 9])) (cK (.int 0)))) (cAndT (cTru (cCall (fun ds => if ds.length = 1 then ev n .f_is_name ds else M.no) (cArgs [cBin gIx (cVar 7) (cK (.int 1))]))) (cTIn true (cBin gIx (cVar 7) (cK (.int 1))) (cVar 4)))))) (sDPutF (cVar 4) (cBin gIx (cVar 7) (cK (.int 1))) (cVar 9)) (sRaise "InvalidText")))
theorem ws_ix {ws : List (List Nat)} {i : Nat} {x : List Nat} {w : List D} (h : ws[i]? = some x) : gIx (wsD ws) (.int (i : Nat)) R w = .ok (.str (mkS x)) w := by
  show gIx (.lst ((ws.map mkS).map .str)) (.int ((i : Nat) : Int)) R w = _
  rw [ix_lst, Fx.atI_nat, List.getElem?_map, List.getElem?_map, h]
  rfl
theorem len_two {l : List Int} (h : l.length = 2) : ∃ i j, l = [i, j] := by
  match l, h with
  | [i, j], _ => exact ⟨i, j, rfl⟩
theorem rdT_val (hn : 0 < n) {X : Str} {L : D} {a : Nat} {st : RS} {ws : List (List Nat)} {e6 e8 e11 : Option D} (hw : LOk ws) (hp : st.ps.length ≤ 1000) (hv : st.vs.length ≤ 1000) :
    rdT n (rE X L st.wo R.length a (some (.int (a : Nat))) e6 (some (wsD ws)) e8 (some (iD (nms ws))) e11) R (stD st) = match rdStep a ws st with
      | some st' => .go .nx (rE X L st'.wo R.length a (some (.int (a : Nat))) e6 (some (wsD ws)) e8 (some (iD (nms ws))) e11) (stD st')
      | none => .exn "InvalidText" [] [] (rE X L st.wo R.length a (some (.int (a : Nat))) e6 (some (wsD ws)) e8 (some (iD (nms ws))) e11) (stD st) := by
  have hs : sizeLine = 16777216 := rfl
  obtain ⟨⟨hne, hfree⟩, hlow, hlen, hnm⟩ := hw
  obtain ⟨x0, ws', rfl⟩ : ∃ x0 ws', ws = x0 :: ws' := by
    cases ws with
    | nil => exact absurd rfl hne
    | cons x0 ws' => exact ⟨x0, ws', rfl⟩
  generalize hws : x0 :: ws' = ws at *
  have h0 : ws[0]? = some x0 := by rw [← hws]; rfl
  have e0 : w0 ws = mkS x0 := by rw [← hws]; rfl
  have l0 : Low x0 := (hlow x0 (by rw [← hws]; simp)).1
  generalize he : rE X L st.wo R.length a (some (.int (a : Nat))) e6 (some (wsD ws)) e8 (some (iD (nms ws))) e11 = env
  have v7 : ∀ w, cVar 7 env R w = .ok (wsD ws) w := fun w => by rw [← he]; rfl
  have v5 : ∀ w, cVar 5 env R w = .ok (.int (a : Nat)) w := fun w => by rw [← he]; rfl
  have v9 : ∀ w, cVar 9 env R w = .ok (iD (nms ws)) w := fun w => by rw [← he]; rfl
  have v3 : ∀ w, cVar 3 env R w = .ok (.ref (R.length + 0)) w := fun w => by rw [← he]; rfl
  have v4 : ∀ w, cVar 4 env R w = .ok (.ref (R.length + 1)) w := fun w => by rw [← he]; rfl
  have sw : ∀ w, see R w (wsD ws) = wsD ws := fun _ => rfl
  have si : ∀ w, see R w (iD (nms ws)) = iD (nms ws) := fun _ => rfl
  have ix0 : ∀ w, gIx (wsD ws) (.int 0) R w = .ok (.str (mkS x0)) w := fun w => ws_ix (R := R) (w := w) (i := 0) h0
  have t0 : ∀ (y : Str), SOk y → ∀ w, cTest (cBin gEq (cBin gIx (cVar 7) (cK (.int 0))) (cK (.str y))) env R w = .ok (decide (w0 ws = y)) w := fun y hy w => by
    rw [e0]
    simp only [x_test, x_bin, x_k, v7, an_ok, sw, see_int, ix0, see_str, eq_str (low_ok l0) hy, bool_bl]
  have ta : ∀ w, cTest (cBin gEq (cVar 5) (cK (.int 0))) env R w = .ok (decide (a = 0)) w := fun w => by
    simp only [x_test, x_bin, x_k, v5, an_ok, see_int, eq_int, bool_bl]
    congr 1
    exact decide_eq_decide.mpr (by omega)
  have tg : ∀ w, cTest (cBin gGt (cVar 5) (cK (.int 0))) env R w = .ok (decide (0 < a)) w := fun w => by
    simp only [x_test, x_bin, x_k, v5, an_ok, see_int, gt_int, bool_bl]
    congr 1
    exact decide_eq_decide.mpr (by omega)
  have ln : ∀ w, gLen (iD (nms ws)) R w = .ok (.int ((nms ws).length : Nat)) w := fun w => by
    show gLen (.lst ((nms ws).map .int)) R w = _
    rw [len_lst, List.length_map]
  have tl : ∀ (k : Nat) w, cTest (cBin gEq (cCall (one gLen) (cArgs [cVar 9])) (cK (.int (k : Nat)))) env R w = .ok (decide ((nms ws).length = k)) w := fun k w => by
    simp only [x_test, x_bin, x_k, v9, x_call, x_args, x_args0, x_one, an_ok, si, ln, see_int, eq_int, bool_bl]
    congr 1
    exact decide_eq_decide.mpr (by omega)
  have tl1 : ∀ w, cTest (cBin gEq (cCall (one gLen) (cArgs [cVar 9])) (cK (.int 1))) env R w = .ok (decide ((nms ws).length = 1)) w := tl 1
  have tl2 : ∀ w, cTest (cBin gEq (cCall (one gLen) (cArgs [cVar 9])) (cK (.int 2))) env R w = .ok (decide ((nms ws).length = 2)) w := tl 2
  have tp : ∀ w, cTest (cBin gGt (cCall (one gLen) (cArgs [cVar 9])) (cK (.int 0))) env R w = .ok (decide (0 < (nms ws).length)) w := fun w => by
    simp only [x_test, x_bin, x_k, v9, x_call, x_args, x_args0, x_one, an_ok, si, ln, see_int, gt_int, bool_bl]
    congr 1
    exact decide_eq_decide.mpr (by omega)
  have c1 := andT_ok (t0 "worlds" ok_lit (stD st)) (fun _ => andT_ok (ta (stD st)) (fun _ => tl1 (stD st)))
  have c2 := andT_ok (t0 "sees" ok_lit (stD st)) (fun _ => andT_ok (tg (stD st)) (fun _ => tl2 (stD st)))
  have s1 : see R (stD st) (.ref (R.length + 1)) = vI st.vs := see_at rfl
  have hix1 : w0 ws = "true" → 0 < (nms ws).length → ∀ w, cBin gIx (cVar 7) (cK (.int 1)) env R w = .ok (.str (mkS (n1 ws))) w := fun ht hl w => by
    have : 2 < ws.length := by
      unfold nms knw at hl
      rw [if_pos ht, List.length_map, List.length_drop] at hl
      omega
    have e1 : ws[1]? = some (n1 ws) := by
      unfold n1
      rw [List.getD_eq_getElem?_getD, List.getElem?_eq_getElem (by omega)]
      rfl
    have := ws_ix (R := R) (w := w) (i := 1) e1
    simp only [x_bin, x_k, v7, an_ok, sw, see_int]
    exact this
  have hn1 : (n1 ws).length ≤ 100 := by
    unfold n1
    rw [List.getD_eq_getElem?_getD]
    cases q : ws[1]? with
    | none => simp
    | some y =>
      have := (hlow y (List.mem_of_getElem? q)).2
      simpa using this
  have tn : w0 ws = "true" → 0 < (nms ws).length → cTru (cCall (fun ds => if ds.length = 1 then ev n .f_is_name ds else M.no) (cArgs [cBin gIx (cVar 7) (cK (.int 1))])) env R (stD st) = .ok (decide (nmB (n1 ws) = true)) (stD st) := fun ht hl => by
    have nm := e_nm hn hnm (by omega) (ro := R) (w := stD st)
    simp only [x_tru, x_call, x_args, x_args0, hix1 ht hl, an_ok, List.length_cons, List.length_nil, Nat.zero_add, if_true, nm, see_bl, truth_bl, Bool.decide_eq_true]
  have dh : dhas (st.vs.map fun p => .str p.1) (.str (mkS (n1 ws))) = !decide (mkS (n1 ws) ∉ st.vs.map (·.1)) := by
    by_cases c : mkS (n1 ws) ∉ st.vs.map (·.1)
    · rw [decide_eq_true c]
      unfold dhas
      rw [Bool.not_true, List.any_eq_false]
      intro d hd
      obtain ⟨p, hp, rfl⟩ := List.mem_map.mp hd
      simp only [keyOf_str, Option.some.injEq, Sum.inr.injEq, decide_eq_true_eq]
      exact fun e => c (by rw [← e]; exact List.mem_map_of_mem hp)
    · rw [decide_eq_false c]
      have c' := Classical.not_not.mp c
      obtain ⟨p, hp, e⟩ := List.mem_map.mp c'
      unfold dhas
      rw [Bool.not_false, List.any_eq_true]
      exact ⟨.str p.1, List.mem_map_of_mem (f := fun p : Str × List Int => D.str p.1) hp, by rw [e]; simp⟩
  have ti : w0 ws = "true" → 0 < (nms ws).length → cTIn true (cBin gIx (cVar 7) (cK (.int 1))) (cVar 4) env R (stD st) = .ok (decide (mkS (n1 ws) ∉ st.vs.map (·.1))) (stD st) := fun ht hl => by
    rw [x_tin, hix1 ht hl, an_ok, v4, an_ok, s1]
    unfold vI gTIn
    simp only [keyOf_str, Option.isSome_some, if_true, dh]
    simp
  have c3 : cAndT (cTest (cBin gEq (cBin gIx (cVar 7) (cK (.int 0))) (cK (.str "true")))) (cAndT (cTest (cBin gGt (cVar 5) (cK (.int 0)))) (cAndT (cTest (cBin gGt (cCall (one gLen) (cArgs [cVar 9])) (cK (.int 0)))) (cAndT (cTru (cCall (fun ds => if ds.length = 1 then ev n .f_is_name ds else M.no) (cArgs [cBin gIx (cVar 7) (cK (.int 1))]))) (cTIn true (cBin gIx (cVar 7) (cK (.int 1))) (cVar 4))))) env R (stD st) = .ok (decide (w0 ws = "true" ∧ 0 < a ∧ 0 < (nms ws).length ∧ nmB (n1 ws) = true ∧ mkS (n1 ws) ∉ st.vs.map (·.1))) (stD st) :=
    andT_ok (t0 "true" ok_lit (stD st)) (fun h1 => andT_ok (tg (stD st)) (fun _ => andT_ok (tp (stD st)) (fun h2 => andT_ok (tn h1 h2) (fun _ => ti h1 h2))))
  unfold rdT rdStep
  rw [x_ifS, c1, st_ok]
  by_cases k1 : w0 ws = "worlds" ∧ a = 0 ∧ (nms ws).length = 1
  · rw [decide_eq_true k1, if_pos rfl, if_pos k1]
    obtain ⟨i, hi⟩ : ∃ i, nms ws = [i] := List.length_eq_one_iff.mp k1.2.2
    have e1 : cBin gIx (cVar 9) (cK (.int 0)) env R (stD st) = .ok (.int ((nms ws).getD 0 0)) (stD st) := by
      simp only [x_bin, x_k, v9, an_ok, si, see_int]
      rw [hi]
      rfl
    rw [x_set, e1, st_ok, ← he]
    rfl
  rw [decide_eq_false k1, if_neg Bool.false_ne_true, if_neg k1, x_ifS, c2, st_ok]
  by_cases k2 : w0 ws = "sees" ∧ 0 < a ∧ (nms ws).length = 2
  · rw [decide_eq_true k2, if_pos rfl, if_pos k2]
    obtain ⟨i, j, hi⟩ : ∃ i j, nms ws = [i, j] := len_two k2.2.2
    have tu : cTup (cArgs [cBin gIx (cVar 9) (cK (.int 0)), cBin gIx (cVar 9) (cK (.int 1))]) env R (stD st) = .ok (ipD ((nms ws).getD 0 0, (nms ws).getD 1 0)) (stD st) := by
      simp only [x_tup, x_args, x_args0, x_bin, x_k, v9, an_ok, si, see_int]
      rw [hi]
      rfl
    have s3 : see R (stD st) (.ref (R.length + 0)) = .lst (st.ps.map ipD) := see_at rfl
    have ap := append_at (ro := R) (w := stD st) (n := 0) (d := ipD ((nms ws).getD 0 0, (nms ws).getD 1 0)) (ds := st.ps.map ipD) rfl (by rw [List.length_map]; omega)
    rw [x_expr, x_ml, v3, an_ok, s3, mlV_lst, x_args, tu, an_ok, x_args0, an_ok, an_ok, ap, st_ok, ← he]
    unfold stD
    simp only [List.map_append]
    rfl
  rw [decide_eq_false k2, if_neg Bool.false_ne_true, if_neg k2, x_ifS, c3, st_ok]
  by_cases k3 : w0 ws = "true" ∧ 0 < a ∧ 0 < (nms ws).length ∧ nmB (n1 ws) = true ∧ mkS (n1 ws) ∉ st.vs.map (·.1)
  · rw [decide_eq_true k3, if_pos rfl, if_pos k3]
    have dp := dput_at (ro := R) (w := stD st) (n := 1) (v := iD (nms ws)) (k := .str (mkS (n1 ws))) (ks := st.vs.map fun p => .str p.1) (xs := st.vs.map fun p => iD p.2) rfl (by simp) (by rw [List.length_map]; omega)
    have d2 : dput (st.vs.map fun p => .str p.1) (st.vs.map fun p => iD p.2) (.str (mkS (n1 ws))) (iD (nms ws)) = vI (st.vs ++ [(mkS (n1 ws), nms ws)]) := by
      unfold dput
      rw [dh, decide_eq_true k3.2.2.2.2]
      simp [vI]
    rw [d2] at dp
    rw [x_dput, v9, st_ok, v4, st_ok, hix1 k3.1 k3.2.2.1, st_ok, dp, st_ok, ← he]
    rfl
  · rw [decide_eq_false k3, if_neg Bool.false_ne_true, if_neg k3, x_raise]
end
def enA (a : Nat) : List D → List D
  | [] => []
  | d :: ds => .tup [.int (a : Nat), d] :: enA (a + 1) ds
theorem enum_en (ds : List D) : enumD ds = enA 0 ds := by
  have key : ∀ (ds : List D) (a : Nat), ds.mapIdx (fun (i : Nat) d => D.tup [.int ((a + i : Nat) : Int), d]) = enA a ds := fun ds => by
    induction ds with
    | nil => exact fun a => rfl
    | cons d ds ih =>
      intro a
      rw [List.mapIdx_cons]
      show D.tup [.int ((a + 0 : Nat) : Int), d] :: _ = D.tup [.int (a : Nat), d] :: enA (a + 1) ds
      rw [← ih (a + 1)]
      congr 1
      refine List.mapIdx_eq_mapIdx_iff.mpr fun i hi => ?_
      rw [show a + (i + 1) = a + 1 + i by omega]
  have := key ds 0
  unfold enumD
  simpa using this
theorem ln_small {ws : List (List Nat)} (h : ∀ x ∈ ws, ∀ c ∈ x, c < 128) : ∀ c ∈ lnC ws, c < 128 := fun c hc => by
  unfold lnC at hc
  cases ws with
  | nil => simp [TL.joinL] at hc
  | cons x ws =>
    rw [join_ln] at hc
    rcases List.mem_append.mp hc with hc | hc
    · exact h x (by simp) c hc
    · obtain ⟨l, hl, hm⟩ := List.mem_flatten.mp hc
      obtain ⟨y, hy, rfl⟩ := List.mem_map.mp hl
      rcases List.mem_cons.mp hm with e | hm
      · subst e
        decide
      · exact h y (by simp [hy]) c hm
theorem mtx_small {L : List (List (List Nat))} (h : ∀ ws ∈ L, ∀ x ∈ ws, ∀ c ∈ x, c < 128) : ∀ c ∈ mtx L, c < 128 := fun c hc => by
  unfold mtx at hc
  obtain ⟨l, hl, hm⟩ := List.mem_flatten.mp hc
  obtain ⟨ws, hw, rfl⟩ := List.mem_map.mp hl
  rcases List.mem_append.mp hm with hm | hm
  · exact ln_small (h ws hw) c hm
  · rw [List.mem_singleton.mp hm]
    decide
theorem al_128 {c : Nat} (h : alB c = true) : c < 128 := by
  have key : ∀ c ∈ cp alS, c < 128 := by decide
  exact key c (of_decide_eq_true h)
theorem mws_small {n : Nat} {l : List (Nat × Nat)} {kv : List (Str × List Nat)} (hk : KvOk n kv) (h10 : n < 10) (hp : ∀ p ∈ l, p.1 < n ∧ p.2 < n) : SOk (mkS (mtx (mws n l kv))) := by
  have d1 : ∀ k, k < 10 → ∀ c ∈ dg k, c < 128 := fun k hk c hc => by
    rw [List.mem_singleton.mp hc]
    omega
  refine str_ok (x := mkS (mtx (mws n l kv))) fun c hc => ?_
  have : c < 128 := mtx_small (fun ws hws x hx c hc => by
    rcases List.mem_cons.mp hws with rfl | hws
    · simp only [wdW, List.mem_cons, List.not_mem_nil, or_false] at hx
      rcases hx with rfl | rfl
      · have key : ∀ c ∈ cp "worlds", c < 128 := by decide
        exact key c hc
      · exact d1 _ h10 c hc
    · rcases List.mem_append.mp hws with hws | hws
      · obtain ⟨p, hp', rfl⟩ := List.mem_map.mp hws
        have hpp := hp p hp'
        simp only [wdS, List.mem_cons, List.not_mem_nil, or_false] at hx
        rcases hx with rfl | rfl | rfl
        · have key : ∀ c ∈ cp "sees", c < 128 := by decide
          exact key c hc
        · exact d1 _ (by omega) c hc
        · exact d1 _ (by omega) c hc
      · obtain ⟨p, hp', rfl⟩ := List.mem_map.mp hws
        rcases List.mem_cons.mp hx with rfl | hx
        · have key : ∀ c ∈ cp "true", c < 128 := by decide
          exact key c hc
        · rcases List.mem_cons.mp hx with rfl | hx
          · exact al_128 ((hk.nm p hp').2.1 c hc)
          · obtain ⟨i, hi, rfl⟩ := List.mem_map.mp hx
            have := (hk.rg p hp').1 i hi
            exact d1 i (by omega) c hc) c hc
  omega
def UO (e : Option D) : Prop := ∀ d, e = some d → ∀ b, D.under b d = true
theorem undE_uo {n : Nat} {env : Fx.Env} (h : ∀ o ∈ env, ∀ d, o = some d → D.under n d = true) : undE n env = true := by
  unfold undE
  rw [List.all_eq_true]
  intro o ho
  cases o with
  | none => rfl
  | some d => exact h _ ho d rfl
theorem uo_some {d : D} (h : ∀ b, D.under b d = true) : UO (some d) := fun e he => by cases he; exact h
/-! ### all lines, whatever they are -/
section
variable {n : Nat} {R : List D}
def rdL : Nat → List (List (List Nat)) → RS → Option RS
  | _, [], st => some st
  | a, ws :: L, st => match rdStep a ws st with
    | some st' => rdL (a + 1) L st'
    | none => none
theorem rdL_cons {a : Nat} {ws : List (List Nat)} {L : List (List (List Nat))} {st st' : RS} (h : rdStep a ws st = some st') : rdL a (ws :: L) st = rdL (a + 1) L st' := by
  show (match rdStep a ws st with | some st' => rdL (a + 1) L st' | none => none) = _
  rw [h]
theorem rdL_none {a : Nat} {ws : List (List Nat)} {L : List (List (List Nat))} {st : RS} (h : rdStep a ws st = none) : rdL a (ws :: L) st = none := by
  show (match rdStep a ws st with | some st' => rdL (a + 1) L st' | none => none) = _
  rw [h]
theorem rdStep_len {a : Nat} {ws : List (List Nat)} {st st' : RS} (h : rdStep a ws st = some st') : st'.ps.length ≤ st.ps.length + 1 ∧ st'.vs.length ≤ st.vs.length + 1 := by
  unfold rdStep at h
  by_cases c1 : w0 ws = "worlds" ∧ a = 0 ∧ (nms ws).length = 1
  · rw [if_pos c1] at h
    cases h
    exact ⟨Nat.le_succ _, Nat.le_succ _⟩
  · rw [if_neg c1] at h
    by_cases c2 : w0 ws = "sees" ∧ 0 < a ∧ (nms ws).length = 2
    · rw [if_pos c2] at h
      cases h
      exact ⟨by simp, by simp⟩
    · rw [if_neg c2] at h
      by_cases c3 : w0 ws = "true" ∧ 0 < a ∧ 0 < (nms ws).length ∧ nmB (n1 ws) = true ∧ mkS (n1 ws) ∉ st.vs.map (·.1)
      · rw [if_pos c3] at h
        cases h
        exact ⟨by simp, by simp⟩
      · rw [if_neg c3] at h
        cases h
theorem rdB_val (hn : 0 < n) {X : Str} {L : D} {a b : Nat} {st : RS} {ws : List (List Nat)} {e7 e8 e9 e11 : Option D} (hw : LOk ws) (hp : st.ps.length ≤ 1000) (hv : st.vs.length ≤ 1000) :
    ∃ e8', (∀ b, D.under b e8' = true) ∧ rdB n (rE X L st.wo R.length b (some (.int (a : Nat))) (some (.str (mkS (lnC ws)))) e7 e8 e9 e11) R (stD st) = match rdStep a ws st with
      | some st' => .go .nx (rE X L st'.wo R.length b (some (.int (a : Nat))) (some (.str (mkS (lnC ws)))) (some (wsD ws)) (some e8') (some (iD (nms ws))) e11) (stD st')
      | none => .exn "InvalidText" [] [] (rE X L st.wo R.length b (some (.int (a : Nat))) (some (.str (mkS (lnC ws)))) (some (wsD ws)) (some e8') (some (iD (nms ws))) e11) (stD st) := by
  obtain ⟨x0, ws', e⟩ : ∃ x0 ws', ws = x0 :: ws' := by
    cases ws with
    | nil => exact absurd rfl hw.1.1
    | cons x0 ws' => exact ⟨x0, ws', rfl⟩
  have l1 := lnC_len ws (m := 100) fun x hx => (hw.2.1 x hx).2
  have l2 := hw.2.2.1
  obtain ⟨e8', u, h⟩ := rd_start (n := n) (R := R) (X := X) (L := L) (wo := st.wo) (a := a) (e7 := e7) (e8 := e8) (e9 := e9) (e11 := e11) (ws := ws) (known := knw ws) (x := x0) (w := stD st) hn hw.1 (by rw [e]; rfl) (low_ok (hw.2.1 x0 (by rw [e]; simp)).1) (by rw [e]; rfl) (fun y hy => ⟨(hw.2.1 y hy).1, by have := (hw.2.1 y hy).2; omega⟩) (by omega) (by
    have : (100 + 1) * ws.length ≤ (100 + 1) * 100 := Nat.mul_le_mul (Nat.le_refl _) l2
    omega)
  refine ⟨e8', u, ?_⟩
  have t := rdT_val (n := n) (R := R) hn (X := X) (L := L) (a := a) (st := st) (ws := ws) (e6 := some (.str (mkS (lnC ws)))) (e8 := some e8') (e11 := e11) hw hp hv
  exact (h (rdT n)).trans t
theorem rd_all {X : Str} {L : D} (hn : 0 < n) : ∀ (LL : List (List (List Nat))) (a : Nat) (st : RS) (e5 e6 e7 e8 e9 e11 : Option D), (∀ ws ∈ LL, LOk ws) → st.ps.length + LL.length ≤ 1000 → st.vs.length + LL.length ≤ 1000 → UO e5 ∧ UO e6 ∧ UO e7 ∧ UO e8 ∧ UO e9 →
    match rdL a LL st with
    | some st' => ∃ e5' e6' e7' e8' e9', (UO e5' ∧ UO e6' ∧ UO e7' ∧ UO e8' ∧ UO e9') ∧ forL (.tp [5, 6]) (rdB n) (enA a (LL.map fun ws => .str (mkS (lnC ws)))) (rE X L st.wo R.length 0 e5 e6 e7 e8 e9 e11) R (stD st) = .go .nx (rE X L st'.wo R.length 0 e5' e6' e7' e8' e9' e11) (stD st')
    | none => ∃ env' w', forL (.tp [5, 6]) (rdB n) (enA a (LL.map fun ws => .str (mkS (lnC ws)))) (rE X L st.wo R.length 0 e5 e6 e7 e8 e9 e11) R (stD st) = .exn "InvalidText" [] [] env' w'
  | [], a, st, e5, e6, e7, e8, e9, e11, _, _, _, u => ⟨e5, e6, e7, e8, e9, u, rfl⟩
  | ws :: LL, a, st, e5, e6, e7, e8, e9, e11, h, hp, hv, u => by
    simp only [List.length_cons] at hp hv
    obtain ⟨f8, u8, st1⟩ := rdB_val (n := n) (R := R) (X := X) (L := L) (a := a) (b := 0) (st := st) (ws := ws) (e7 := e7) (e8 := e8) (e9 := e9) (e11 := e11) hn (h ws (by simp)) (by omega) (by omega)
    have ee : ((rE X L st.wo R.length 0 e5 e6 e7 e8 e9 e11).set 5 (some (.int (a : Nat)))).set 6 (some (.str (mkS (lnC ws)))) = rE X L st.wo R.length 0 (some (.int (a : Nat))) (some (.str (mkS (lnC ws)))) e7 e8 e9 e11 := rfl
    have st0 : forL (.tp [5, 6]) (rdB n) (enA a ((ws :: LL).map fun ws => .str (mkS (lnC ws)))) (rE X L st.wo R.length 0 e5 e6 e7 e8 e9 e11) R (stD st) = (rdB n (rE X L st.wo R.length 0 (some (.int (a : Nat))) (some (.str (mkS (lnC ws)))) e7 e8 e9 e11) R (stD st)).turn fun env2 w2 => forL (.tp [5, 6]) (rdB n) (enA (a + 1) (LL.map fun ws => .str (mkS (lnC ws)))) env2 R w2 := by
      show forL (.tp [5, 6]) (rdB n) (.tup [.int (a : Nat), .str (mkS (lnC ws))] :: enA (a + 1) (LL.map fun ws => .str (mkS (lnC ws)))) _ R _ = _
      rw [for_tp2, ee]
    rw [st0, st1]
    cases q : rdStep a ws st with
    | none =>
      rw [rdL_none q]
      exact ⟨_, _, rfl⟩
    | some st' =>
      rw [rdL_cons q]
      have ln := rdStep_len q
      have ih := rd_all (X := X) (L := L) hn LL (a + 1) st' (some (.int (a : Nat))) (some (.str (mkS (lnC ws)))) (some (wsD ws)) (some f8) (some (iD (nms ws))) e11 (fun v hv => h v (by simp [hv])) (by omega) (by omega) ⟨uo_some fun b => rfl, uo_some fun b => rfl, uo_some fun b => ws_und b, uo_some u8, uo_some fun b => iD_und⟩
      exact ih
theorem mtx_joinT {t : List Nat} : ∀ L : List (List (List Nat)), mtx L ++ t = TL.joinL [10] (L.map lnC ++ [t])
  | [] => rfl
  | ws :: L => by
    have e : mtx (ws :: L) = (lnC ws ++ [10]) ++ mtx L := rfl
    rw [e, List.append_assoc, mtx_joinT L]
    cases L with
    | nil => simp [TL.joinL]
    | cons v L =>
      show _ = lnC ws ++ ([10] ++ TL.joinL [10] (lnC v :: (L.map lnC ++ [t])))
      simp
def grp (m : Nat) : SF := sTellX (sSeq (sSet 3 (cLstM (cArgs []))) (sSeq (sSet 4 (cDNew)) (sFor (.tp [5, 6]) (cEnum (cArgs [cSl (cVar 1) (cNoPart) (cPart (cUn gNeg (cK (.int 1))))])) (rdB m))))
def LDs (LL : List (List (List Nat))) (t : List Nat) : List D := ((LL.map lnC ++ [t]).map mkS).map D.str
theorem vI_und {b : Nat} {v : List (Str × List Int)} : D.under b (vI v) = true := by
  show D.unders b (v.map fun p => iD p.2) = true
  exact unders_iff.mpr fun d hd => by
    obtain ⟨x, _, rfl⟩ := List.mem_map.mp hd
    exact iD_und
theorem rd_grp (hn : 0 < n) {X : Str} {LL : List (List (List Nat))} {t : List Nat} (all : ∀ ws ∈ LL, LOk ws) (hll : LL.length ≤ 900) :
    match rdL 0 LL ⟨0, [], []⟩ with
    | some st => ∃ k5 k6 k7 k8 k9, grp n [some (.str X), some (.lst (LDs LL t)), some (.int 0), none, none, none, none, none, none, none, none, none] R [] = .go .nx [some (.str X), some (.lst (LDs LL t)), some (.int st.wo), some (.lst (st.ps.map ipD)), some (vI st.vs), k5, k6, k7, k8, k9, none, none] []
    | none => ∃ env' w', grp n [some (.str X), some (.lst (LDs LL t)), some (.int 0), none, none, none, none, none, none, none, none, none] R [] = .exn "InvalidText" [] [] env' w' := by
  have cutL : cut (LDs LL t) none (some (-1)) = LL.map fun ws => .str (mkS (lnC ws)) := by
    unfold LDs
    rw [List.map_map, List.map_append, List.map_map]
    unfold cut
    have ln : (LL.map ((D.str ∘ mkS) ∘ lnC) ++ ([t] : List (List Nat)).map (D.str ∘ mkS)).length = LL.length + 1 := by simp
    rw [ln]
    have e1 : HT.sIx (LL.length + 1) 0 none = 0 := rfl
    have e2 : ∀ k : Nat, HT.sIx (k + 1) (k + 1) (some (-1)) = k := fun k => by
      show (if (-1 : Int) < 0 then ((-1 : Int) + ((k + 1 : Nat) : Int)).toNat else min ((-1 : Int).toNat) (k + 1)) = k
      rw [if_pos (by decide)]
      omega
    rw [e1, e2, List.drop_zero, Nat.sub_zero, List.take_left' (by simp)]
    rfl
  have base : ∀ o, forL (.tp [5, 6]) (rdB n) (enA 0 (LL.map fun ws => .str (mkS (lnC ws)))) (rE X (.lst (LDs LL t)) 0 R.length 0 none none none none none none) R (stD ⟨0, [], []⟩) = o → (sSeq (sSet 3 (cLstM (cArgs []))) (sSeq (sSet 4 (cDNew)) (sFor (.tp [5, 6]) (cEnum (cArgs [cSl (cVar 1) (cNoPart) (cPart (cUn gNeg (cK (.int 1))))])) (rdB n)))) [some (.str X), some (.lst (LDs LL t)), some (.int 0), none, none, none, none, none, none, none, none, none] R [] = o := fun o ho => by
    rw [x_seq, x_set, x_lstM, x_args0]
    simp only [an_ok, st_ok, oan_nx, List.set_cons_succ, List.set_cons_zero, List.length_nil, List.nil_append]
    rw [x_seq, x_set, x_dnew]
    simp only [an_ok, st_ok, oan_nx, List.set_cons_succ, List.set_cons_zero, List.length_cons, List.length_nil, Nat.zero_add]
    have it : cEnum (cArgs [cSl (cVar 1) (cNoPart) (cPart (cUn gNeg (cK (.int 1))))]) [some (.str X), some (.lst (LDs LL t)), some (.int 0), some (.ref (R.length + 0)), some (.ref (R.length + 1)), none, none, none, none, none, none, none] R ([.lst []] ++ [.dic [] []]) = .ok (enA 0 (LL.map fun ws => .str (mkS (lnC ws)))) ([.lst []] ++ [.dic [] []]) := by
      have ng : gNeg (.int 1) R ([.lst []] ++ [.dic [] []]) = .ok (.int (-1)) ([.lst []] ++ [.dic [] []]) := rfl
      rw [x_enum]
      simp only [x_args, x_args0, x_sl, x_noPart, x_part, x_un, x_k, x_var, List.getElem?_cons_zero, List.getElem?_cons_succ, ofO_ss, an_ok, see_int, ng, partV_int, see_lst, sl_lst, cutL]
      rw [enum_lst, enum_en]
    rw [x_for]
    have it' := it
    simp only [List.cons_append, List.nil_append] at it' ⊢
    rw [it', st_ok]
    exact ho
  have ra := rd_all (n := n) (R := R) (X := X) (L := .lst (LDs LL t)) hn LL 0 ⟨0, [], []⟩ none none none none none none all (by simp; omega) (by simp; omega) ⟨fun _ h => (by cases h), fun _ h => (by cases h), fun _ h => (by cases h), fun _ h => (by cases h), fun _ h => (by cases h)⟩
  cases q : rdL 0 LL ⟨0, [], []⟩ with
  | none =>
    rw [q] at ra
    obtain ⟨env', w', h⟩ := ra
    exact ⟨env', w', x_tellX_exn (base _ h)⟩
  | some st =>
    rw [q] at ra
    obtain ⟨k5, k6, k7, k8, k9, kk, h⟩ := ra
    refine ⟨k5, k6, k7, k8, k9, x_tellX_go (base _ h) ?_⟩
    refine tell_two (env' := [some (.str X), some (.lst (LDs LL t)), some (.int st.wo), none, none, k5, k6, k7, k8, k9, none, none]) (i := 3) (j := 4) (v := .ref (R.length + 0)) (v2 := .ref (R.length + 1)) (x := stD st) ?_ ?_ ?_ ?_
    · exact base _ h
    · have uL : D.under R.length (.lst (LDs LL t)) = true := unders_iff.mpr fun d hd => by
        obtain ⟨x, _, rfl⟩ := List.mem_map.mp hd
        rfl
      refine undE_uo fun o ho d hd => ?_
      simp only [List.mem_cons, List.not_mem_nil, or_false] at ho
      rcases ho with rfl | rfl | rfl | rfl | rfl | rfl | rfl | rfl | rfl | rfl | rfl | rfl
      · cases hd; rfl
      · cases hd; exact uL
      · cases hd; rfl
      · cases hd
      · cases hd
      · exact kk.1 d hd _
      · exact kk.2.1 d hd _
      · exact kk.2.2.1 d hd _
      · exact kk.2.2.2.1 d hd _
      · exact kk.2.2.2.2 d hd _
      · cases hd
      · cases hd
    · have u0 : D.under 0 (.lst (st.ps.map ipD)) = true := unders_iff.mpr fun d hd => by
        obtain ⟨x, _, rfl⟩ := List.mem_map.mp hd
        rfl
      unfold D.tell
      exact (told_at (b := R.length) (k := 3) (m := 0) (w := stD st) rfl).trans (tell_self _ u0)
    · unfold D.tell
      exact (told_at (b := R.length) (k := 3) (m := 1) (w := stD st) rfl).trans (tell_self _ vI_und)
end
/-! ### what read_model tells -/
section
variable {n : Nat} {R : List D}
abbrev env1 (X : Str) (LL : List (List (List Nat))) (t : List Nat) (st : RS) (k5 k6 k7 k8 k9 k10 : Option D) : Fx.Env := [some (.str X), some (.lst (LDs LL t)), some (.int st.wo), some (.lst (st.ps.map ipD)), some (vI st.vs), k5, k6, k7, k8, k9, k10, none]
abbrev frI (st : RS) : D := .tup [.int st.wo, .tup (st.ps.map ipD)]
theorem rd_split {X : Str} {LL : List (List (List Nat))} {t : List Nat} (hX : cp X = mtx LL ++ t) (ht : 10 ∉ t) (hl : X.length ≤ 1000000) (all : ∀ ws ∈ LL, WOk ws) {e : Fx.Env} (he : e[0]? = some (some (.str X))) : cStr gSplit (cVar 0) (cArgs [cK (.str "
")]) e R [] = .ok (.lst (LDs LL t)) [] := by
  have spl : Txt.split X "\n" = (LL.map lnC ++ [t]).map mkS := split_cp (c := 10) (by decide) (by decide) (by simp) (fun p hp => by
    rcases List.mem_append.mp hp with hp | hp
    · obtain ⟨ws, hw, rfl⟩ := List.mem_map.mp hp
      exact ln_free (all ws hw)
    · rw [List.mem_singleton.mp hp]
      exact ht) (by rw [hX]; exact mtx_joinT LL)
  have hs : sizeLine = 16777216 := rfl
  have v0 : cVar 0 e R [] = .ok (.str X) [] := by rw [x_var, he]; rfl
  rw [x_str (x := X) v0, x_args, x_k, an_ok, x_args0, an_ok, an_ok, split_ok (by decide) (by omega), spl]
  rfl
def rdEnd (m : Nat) : SF := (sSeq (sTryM [(subO csL subL "InvalidModel", sSet 10 (cK .non))] (sSet 10 (cCall (fun ds => if ds.length = 2 then ev m .f_Model ds else M.no) (cArgs [cTup (cArgs [cVar 2, cCall (one gTuple) (cArgs [cVar 3])]), cVar 4]))))
  (sSeq (sIf (cOrT (cTest (cBin gIsN (cVar 10) (cK .non))) (cTest (cBin gNe (cCall (fun ds => if ds.length = 1 then ev m .f_write_model ds else M.no) (cArgs [cVar 10])) (cVar 0)))) (sRaise "InvalidText") (sNil))
  (sRet (cVar 10))))
theorem rd_from {m : Nat} (hm : 0 < m) {X : Str} {LL : List (List (List Nat))} {t : List Nat} (hX : cp X = mtx LL ++ t) (ht : 10 ∉ t) (hl : X.length ≤ 1000000) (all : ∀ ws ∈ LL, LOk ws) (hll : LL.length ≤ 900) :
    match rdL 0 LL ⟨0, [], []⟩ with
    | some st => ∃ k5 k6 k7 k8 k9, runDef 1 12 (b_read_model (ev m)) [.str X] R [] = (rdEnd m (env1 X LL t st k5 k6 k7 k8 k9 none) R []).fin
    | none => ∃ w', runDef 1 12 (b_read_model (ev m)) [.str X] R [] = .exn "InvalidText" [] [] w' := by
  have g := rd_grp (n := m) (R := R) hm (X := X) (t := t) all hll
  have run : ∀ o, grp m [some (.str X), some (.lst (LDs LL t)), some (.int 0), none, none, none, none, none, none, none, none, none] R [] = o → runDef 1 12 (b_read_model (ev m)) [.str X] R [] = (OS.an o fun e w => rdEnd m e R w).fin := fun o ho => by
    rw [x_def]
    simp only [List.length_cons, List.length_nil, Nat.zero_add, Nat.reduceAdd, if_true, List.map_cons, List.map_nil, Nat.reduceSub, List.replicate, List.cons_append, List.nil_append, List.append_nil]
    unfold b_read_model
    rw [x_seq, x_set, rd_split hX ht hl (fun ws h => (all ws h).1) rfl, st_ok, oan_nx]
    simp only [List.set_cons_succ, List.set_cons_zero]
    rw [x_seq, x_set, x_k, st_ok, oan_nx]
    simp only [List.set_cons_succ, List.set_cons_zero]
    rw [x_seq]
    have ho' := ho
    unfold grp rdB at ho'
    rw [ho']
    rfl
  cases q : rdL 0 LL ⟨0, [], []⟩ with
  | none =>
    rw [q] at g
    obtain ⟨env', w', h⟩ := g
    exact ⟨w', by rw [run _ h]; rfl⟩
  | some st =>
    rw [q] at g
    obtain ⟨k5, k6, k7, k8, k9, h⟩ := g
    exact ⟨k5, k6, k7, k8, k9, by rw [run _ h]; rfl⟩
theorem tup_at {st : RS} {X : Str} {LL : List (List (List Nat))} {t : List Nat} {k5 k6 k7 k8 k9 k10 : Option D} : cArgs [cTup (cArgs [cVar 2, cCall (one gTuple) (cArgs [cVar 3])]), cVar 4] (env1 X LL t st k5 k6 k7 k8 k9 k10) R [] = .ok [frI st, vI st.vs] [] := rfl
theorem end_bad {m : Nat} {X : Str} {LL : List (List (List Nat))} {t : List Nat} {st : RS} {k5 k6 k7 k8 k9 : Option D} (h : ev m .f_Model [frI st, vI st.vs] R [] = .exn "InvalidModel" [] [] []) :
    ∃ w', (rdEnd m (env1 X LL t st k5 k6 k7 k8 k9 none) R []).fin = .exn "InvalidText" [] [] w' := by
  have b : (sSet 10 (cCall (fun ds => if ds.length = 2 then ev m .f_Model ds else M.no) (cArgs [cTup (cArgs [cVar 2, cCall (one gTuple) (cArgs [cVar 3])]), cVar 4]))) (env1 X LL t st k5 k6 k7 k8 k9 none) R [] = .exn "InvalidModel" [] [] (env1 X LL t st k5 k6 k7 k8 k9 none) [] := by
    rw [x_set, x_call, tup_at, an_ok]
    simp only [List.length_cons, List.length_nil, Nat.zero_add, Nat.reduceAdd, if_true, h]
    rfl
  have s1 : subO csL subL "InvalidModel" "InvalidModel" = some true := by decide
  have tr : (sTryM [(subO csL subL "InvalidModel", sSet 10 (cK .non))] (sSet 10 (cCall (fun ds => if ds.length = 2 then ev m .f_Model ds else M.no) (cArgs [cTup (cArgs [cVar 2, cCall (one gTuple) (cArgs [cVar 3])]), cVar 4])))) (env1 X LL t st k5 k6 k7 k8 k9 none) R [] = .go .nx (env1 X LL t st k5 k6 k7 k8 k9 (some .non)) [] := by
    unfold sTryM
    rw [b]
    show sHds _ "InvalidModel" _ R [] = _
    unfold sHds
    rw [s1]
    rfl
  refine ⟨[], ?_⟩
  unfold rdEnd
  rw [x_seq, tr, oan_nx, x_seq, x_ifS, x_orT]
  have t1 : cTest (cBin gIsN (cVar 10) (cK .non)) (env1 X LL t st k5 k6 k7 k8 k9 (some .non)) R [] = .ok true [] := rfl
  rw [t1, an_ok, if_pos rfl, st_ok, if_pos rfl, x_raise]
  rfl
theorem end_ok {m : Nat} {X T : Str} {Md : D} {LL : List (List (List Nat))} {t : List Nat} {st : RS} {k5 k6 k7 k8 k9 : Option D} (h : ev m .f_Model [frI st, vI st.vs] R [] = .ok Md []) (hw : ev m .f_write_model [Md] R [] = .ok (.str T) []) (sX : SOk X) (sT : SOk T) (hM : gIsN Md .non R [] = .ok (.bl false) []) (hs : see R [] Md = Md) :
    (rdEnd m (env1 X LL t st k5 k6 k7 k8 k9 none) R []).fin = if T = X then .ok Md [] else .exn "InvalidText" [] [] [] := by
  have b : (sSet 10 (cCall (fun ds => if ds.length = 2 then ev m .f_Model ds else M.no) (cArgs [cTup (cArgs [cVar 2, cCall (one gTuple) (cArgs [cVar 3])]), cVar 4]))) (env1 X LL t st k5 k6 k7 k8 k9 none) R [] = .go .nx (env1 X LL t st k5 k6 k7 k8 k9 (some Md)) [] := by
    rw [x_set, x_call, tup_at, an_ok]
    simp only [List.length_cons, List.length_nil, Nat.zero_add, Nat.reduceAdd, if_true, h]
    rfl
  have tr : (sTryM [(subO csL subL "InvalidModel", sSet 10 (cK .non))] (sSet 10 (cCall (fun ds => if ds.length = 2 then ev m .f_Model ds else M.no) (cArgs [cTup (cArgs [cVar 2, cCall (one gTuple) (cArgs [cVar 3])]), cVar 4])))) (env1 X LL t st k5 k6 k7 k8 k9 none) R [] = .go .nx (env1 X LL t st k5 k6 k7 k8 k9 (some Md)) [] := by
    unfold sTryM
    rw [b]
  unfold rdEnd
  rw [x_seq, tr, oan_nx, x_seq, x_ifS, x_orT]
  have v10 : ∀ w, cVar 10 (env1 X LL t st k5 k6 k7 k8 k9 (some Md)) R w = .ok Md w := fun _ => rfl
  have v0 : ∀ w, cVar 0 (env1 X LL t st k5 k6 k7 k8 k9 (some Md)) R w = .ok (.str X) w := fun _ => rfl
  have t1 : cTest (cBin gIsN (cVar 10) (cK .non)) (env1 X LL t st k5 k6 k7 k8 k9 (some Md)) R [] = .ok false [] := by
    have sn : see R [] .non = .non := rfl
    simp only [x_test, x_bin, x_k, v10, an_ok, hs, sn, hM, bool_bl]
  have t2 : cTest (cBin gNe (cCall (fun ds => if ds.length = 1 then ev m .f_write_model ds else M.no) (cArgs [cVar 10])) (cVar 0)) (env1 X LL t st k5 k6 k7 k8 k9 (some Md)) R [] = .ok (!decide (T = X)) [] := by
    have q : gNe (.str T) (.str X) R [] = .ok (.bl (!decide (T = X))) [] := ne_str (x := T) (y := X) sT sX
    simp only [x_test, x_bin, x_call, x_args, x_args0, v10, v0, an_ok, List.length_cons, List.length_nil, Nat.zero_add, if_true, hw, see_str, q, bool_bl]
  rw [t1, an_ok, if_neg Bool.false_ne_true, t2, st_ok]
  by_cases c : T = X
  · rw [decide_eq_true c, Bool.not_true, if_neg Bool.false_ne_true, if_pos c, x_nil, oan_nx, x_ret, v10]
    rfl
  · rw [decide_eq_false c, Bool.not_false, if_pos rfl, if_neg c, x_raise]
    rfl
end
/-! ### the plain law: lines that are refused -/
def castP (p : Nat × Nat) : Int × Int := ((p.1 : Int), (p.2 : Int))
def castV (p : Str × List Nat) : Str × List Int := (p.1, p.2.map fun i : Nat => (i : Int))
theorem numI_dg {k : Nat} (h : k < 10) : numI (dg k) = (k : Int) := by
  have key : ∀ k < 10, numI (dg k) = ((k : Nat) : Int) := by decide
  exact key k h
theorem nums_dg {l : List Nat} (h : ∀ i ∈ l, i < 10) : (l.map dg).map numI = l.map fun i : Nat => (i : Int) := by
  rw [List.map_map]
  exact List.map_congr_left fun i hi => numI_dg (h i hi)
theorem st_none {a : Nat} {ws : List (List Nat)} {st : RS} (h1 : ¬ (w0 ws = "worlds" ∧ a = 0 ∧ (nms ws).length = 1)) (h2 : ¬ (w0 ws = "sees" ∧ 0 < a ∧ (nms ws).length = 2)) (h3 : ¬ (w0 ws = "true" ∧ 0 < a ∧ 0 < (nms ws).length ∧ nmB (n1 ws) = true ∧ mkS (n1 ws) ∉ st.vs.map (·.1))) : rdStep a ws st = none := by
  unfold rdStep
  rw [if_neg h1, if_neg h2, if_neg h3]
theorem lit_ne : ("worlds" : Str) ≠ "sees" ∧ ("worlds" : Str) ≠ "true" ∧ ("sees" : Str) ≠ "worlds" ∧ ("sees" : Str) ≠ "true" ∧ ("true" : Str) ≠ "worlds" ∧ ("true" : Str) ≠ "sees" := by decide
theorem w0_W (r : List (List Nat)) : w0 (cp "worlds" :: r) = "worlds" := mk_cp _
theorem w0_S (r : List (List Nat)) : w0 (cp "sees" :: r) = "sees" := mk_cp _
theorem w0_T (r : List (List Nat)) : w0 (cp "true" :: r) = "true" := mk_cp _
theorem nms_W (r : List (List Nat)) : nms (cp "worlds" :: r) = r.map numI := by
  unfold nms knw
  rw [w0_W, if_neg lit_ne.2.1]
  rfl
theorem nms_S (r : List (List Nat)) : nms (cp "sees" :: r) = r.map numI := by
  unfold nms knw
  rw [w0_S, if_neg lit_ne.2.2.2.1]
  rfl
theorem nms_T (x : List Nat) (r : List (List Nat)) : nms (cp "true" :: x :: r) = r.map numI := by
  unfold nms knw
  rw [w0_T, if_pos rfl]
  rfl
theorem st_W {r : List (List Nat)} {st : RS} (h : r.length = 1) : rdStep 0 (cp "worlds" :: r) st = some ⟨(r.map numI).getD 0 0, st.ps, st.vs⟩ := by
  unfold rdStep
  rw [if_pos ⟨w0_W r, rfl, by rw [nms_W, List.length_map]; exact h⟩, nms_W]
theorem st_Wno {a : Nat} {r : List (List Nat)} {st : RS} (h : 0 < a ∨ r.length ≠ 1) : rdStep a (cp "worlds" :: r) st = none :=
  st_none (fun c => by
    have := c.2.2
    rw [nms_W, List.length_map] at this
    have h2 := c.2.1
    omega) (fun c => lit_ne.1 ((w0_W r).symm.trans c.1)) (fun c => lit_ne.2.1 ((w0_W r).symm.trans c.1))
theorem st_S {a : Nat} {r : List (List Nat)} {st : RS} (ha : 0 < a) (h : r.length = 2) : rdStep a (cp "sees" :: r) st = some ⟨st.wo, st.ps ++ [((r.map numI).getD 0 0, (r.map numI).getD 1 0)], st.vs⟩ := by
  unfold rdStep
  rw [if_neg (fun c => lit_ne.2.2.1 ((w0_S r).symm.trans c.1)), if_pos ⟨w0_S r, ha, by rw [nms_S, List.length_map]; exact h⟩, nms_S]
theorem st_Sno {a : Nat} {r : List (List Nat)} {st : RS} (h : a = 0 ∨ r.length ≠ 2) : rdStep a (cp "sees" :: r) st = none :=
  st_none (fun c => lit_ne.2.2.1 ((w0_S r).symm.trans c.1)) (fun c => by
    have := c.2.2
    rw [nms_S, List.length_map] at this
    have h2 := c.2.1
    omega) (fun c => lit_ne.2.2.2.1 ((w0_S r).symm.trans c.1))
theorem st_T {a : Nat} {x : List Nat} {r : List (List Nat)} {st : RS} (ha : 0 < a) (h : 0 < r.length) (hx : nmB x = true) (hn : mkS x ∉ st.vs.map (·.1)) : rdStep a (cp "true" :: x :: r) st = some ⟨st.wo, st.ps, st.vs ++ [(mkS x, r.map numI)]⟩ := by
  unfold rdStep
  rw [if_neg (fun c => lit_ne.2.2.2.2.1 ((w0_T _).symm.trans c.1)), if_neg (fun c => lit_ne.2.2.2.2.2 ((w0_T _).symm.trans c.1)), if_pos ⟨w0_T _, ha, by rw [nms_T, List.length_map]; exact h, hx, hn⟩, nms_T]
  rfl
theorem st_Tno {a : Nat} {x : List Nat} {r : List (List Nat)} {st : RS} (h : a = 0 ∨ r = [] ∨ nmB x = false ∨ mkS x ∈ st.vs.map (·.1)) : rdStep a (cp "true" :: x :: r) st = none :=
  st_none (fun c => lit_ne.2.2.2.2.1 ((w0_T _).symm.trans c.1)) (fun c => lit_ne.2.2.2.2.2 ((w0_T _).symm.trans c.1)) (fun c => by
    obtain ⟨_, c2, c3, c4, c5⟩ := c
    rw [nms_T, List.length_map] at c3
    rcases h with h | h | h | h
    · omega
    · rw [h] at c3
      simp at c3
    · have : nmB x = true := c4
      rw [h] at this
      cases this
    · exact c5 h)
theorem st_E {a : Nat} {x : List Nat} {r : List (List Nat)} {st : RS} (h : mkS x ≠ "worlds" ∧ mkS x ≠ "sees" ∧ mkS x ≠ "true") : rdStep a (x :: r) st = none :=
  st_none (fun c => h.1 c.1) (fun c => h.2.1 c.1) (fun c => h.2.2 c.1)
/-- the lines of pairs -/
theorem rdL_pairs : ∀ (ps : List (Nat × Nat)) (T : List (List (List Nat))) (a : Nat) (st : RS), 0 < a → (∀ p ∈ ps, p.1 < 10 ∧ p.2 < 10) → rdL a (ps.map wdS ++ T) st = rdL (a + ps.length) T ⟨st.wo, st.ps ++ ps.map castP, st.vs⟩
  | [], T, a, st, _, _ => by simp
  | p :: ps, T, a, st, ha, h => by
    have hp := h p (by simp)
    have es : wdS p = cp "sees" :: [dg p.1, dg p.2] := rfl
    rw [List.map_cons, List.cons_append, es, rdL_cons (st_S (st := st) (r := [dg p.1, dg p.2]) ha rfl), rdL_pairs ps T (a + 1) _ (by omega) (fun q hq => h q (by simp [hq]))]
    simp only [List.map_cons, List.map_nil, List.getD_cons_zero, List.getD_cons_succ, numI_dg hp.1, numI_dg hp.2, List.append_assoc, List.cons_append, List.nil_append, List.length_cons]
    rw [show a + 1 + ps.length = a + (ps.length + 1) by omega]
    rfl
theorem rdL_W {k : Nat} (h : k < 10) {T : List (List (List Nat))} {st : RS} : rdL 0 (wdW k :: T) st = rdL 1 T ⟨(k : Int), st.ps, st.vs⟩ := by
  have e : wdW k = cp "worlds" :: [dg k] := rfl
  rw [e, rdL_cons (st_W (st := st) (r := [dg k]) rfl)]
  simp only [List.map_cons, List.map_nil, List.getD_cons_zero, numI_dg h]
/-! frames that are none -/
theorem fr_out {n : Int} {ps : List (Int × Int)} {p : Int × Int} (hp : p ∈ ps) (h : inR n p = false) : frB n ps = false := by
  unfold frB
  have : ps.all (inR n) = false := by
    rw [List.all_eq_false]
    exact ⟨p, hp, by rw [h]; decide⟩
  rw [this]
  simp
theorem fr_asc {n : Int} {ps : List (Int × Int)} (h : ¬ Asc pairK (ps.map two)) : frB n ps = false := by
  unfold frB
  have : ¬ (setK pairK (ps.map two) = ps.map two) := fun e => h (e ▸ asc_setK _)
  rw [decide_eq_false this]
  simp
theorem asc_nodup {ps : List (Int × Int)} (h : Asc pairK (ps.map two)) : ps.Nodup := by
  have : (ps.map two).Pairwise fun x y => pairK x < pairK y := h
  rw [List.pairwise_map] at this
  exact this.imp fun {x y} z e => by rw [e] at z; omega
/-! texts that differ -/
theorem map_mk_inj : ∀ {a b : List (List Nat)}, a.map mkS = b.map mkS → a = b
  | [], [], _ => rfl
  | [], _ :: _, h => by simp at h
  | _ :: _, [], h => by simp at h
  | x :: a, y :: b, h => by
    simp only [List.map_cons, List.cons.injEq] at h
    rw [mk_eq h.1, map_mk_inj h.2]
theorem lnC_inj {a b : List (List Nat)} (ha : WOk a) (hb : WOk b) (h : lnC a = lnC b) : a = b := by
  have e := split_ws ha
  rw [h, split_ws hb] at e
  exact (map_mk_inj e).symm
theorem lns_inj : ∀ {L M : List (List (List Nat))}, (∀ ws ∈ L, WOk ws) → (∀ ws ∈ M, WOk ws) → L.map lnC = M.map lnC → L = M
  | [], [], _, _, _ => rfl
  | [], _ :: _, _, _, h => by simp at h
  | _ :: _, [], _, _, h => by simp at h
  | x :: a, y :: b, ha, hb, h => by
    simp only [List.map_cons, List.cons.injEq] at h
    rw [lnC_inj (ha x (by simp)) (hb y (by simp)) h.1, lns_inj (fun ws hw => ha ws (by simp [hw])) (fun ws hw => hb ws (by simp [hw])) h.2]
theorem mtx_inj {L M : List (List (List Nat))} {t : List Nat} (hL : ∀ ws ∈ L, WOk ws) (hM : ∀ ws ∈ M, WOk ws) (ht : 10 ∉ t) (h : mtx L = mtx M ++ t) : t = [] ∧ L = M := by
  have fr : ∀ {L : List (List (List Nat))} {t : List Nat}, (∀ ws ∈ L, WOk ws) → 10 ∉ t → ∀ p ∈ L.map lnC ++ [t], 10 ∉ p := fun {L t} hL ht p hp => by
    rcases List.mem_append.mp hp with hp | hp
    · obtain ⟨ws, hw, rfl⟩ := List.mem_map.mp hp
      exact ln_free (hL ws hw)
    · rw [List.mem_singleton.mp hp]
      exact ht
  have n0 : (10 : Nat) ∉ ([] : List Nat) := by simp
  have e1 := split_cp (X := mkS (mtx L)) (y := "\n") (c := 10) (by decide) (by decide) (parts := L.map lnC ++ [[]]) (by simp) (fr hL n0) (mtx_join L)
  have e2 := split_cp (X := mkS (mtx L)) (y := "\n") (c := 10) (by decide) (by decide) (parts := M.map lnC ++ [t]) (by simp) (fr hM ht) (by
    show mtx L = _
    rw [h]
    exact mtx_joinT M)
  have e := map_mk_inj (e1.symm.trans e2)
  have e3 := List.append_inj' e rfl
  refine ⟨?_, lns_inj hL hM e3.1⟩
  have := e3.2
  simp only [List.cons.injEq, and_true] at this
  exact this.symm
/-! ### the model is made, or refused; the text is refused -/
theorem e_isframe {m : Nat} (h : 1 < m) {n : Int} {ps : List (Int × Int)} {ro w : List D} (hn : n < 64) (hl : ps.length < 64) : ev m .f_is_frame [.tup [.int n, .tup (ps.map prI)]] ro w = .ok (.bl (frB n ps)) w := by
  obtain ⟨k, rfl⟩ : ∃ k, m = k + 1 := ⟨m - 1, by omega⟩
  exact frame_all (e_world (by omega)) hn hl
def kvs (st : RS) : List KV := st.vs.map fun p => ⟨p.1, iD p.2, p.2⟩
theorem kvs_D (st : RS) : vI st.vs = kD (kvs st) := by
  unfold vI kD kvs
  rw [List.map_map, List.map_map]
  rfl
section
variable {n : Nat} {R : List D}
theorem make_nofr {m : Nat} (hm : 3 < m) {st : RS} (h1 : st.wo < 64) (h2 : st.ps.length < 64) (h3 : frB st.wo st.ps = false) : ev m .f_Model [frI st, vI st.vs] R [] = .exn "InvalidModel" [] [] [] := by
  obtain ⟨m, rfl⟩ : ∃ m', m = m' + 1 + 1 := ⟨m - 2, by omega⟩
  rw [q_Model, q_Model_init]
  have f1 : ∀ ro w, ev m .f_is_frame [frI st] ro w = .ok (.bl false) w := fun ro w => by
    have := e_isframe (m := m) (by omega) (ro := ro) (w := w) h1 h2
    rw [h3] at this
    exact this
  have h : runDef 3 7 (b_Model_init (ev m)) [.ref (R ++ []).length, frI st, vI st.vs] (R ++ []) [.ins "Model" [] []] = .exn "InvalidModel" [] [] [.ins "Model" [] []] := by
    rw [x_def]
    simp only [List.length_cons, List.length_nil, Nat.zero_add, Nat.reduceAdd, if_true, List.map_cons, List.map_nil, Nat.reduceSub, List.replicate, List.cons_append, List.nil_append]
    unfold b_Model_init
    have a1 : (sIf (cNotT (cTru (cCall (fun ds => if ds.length = 1 then ev m .f_is_frame ds else M.no) (cArgs [cVar 1])))) (sRaise "InvalidModel") (sNil)) [some (.ref (R ++ []).length), some (frI st), some (vI st.vs), none, none, none, none] (R ++ []) [.ins "Model" [] []] = .exn "InvalidModel" [] [] [some (.ref (R ++ []).length), some (frI st), some (vI st.vs), none, none, none, none] [.ins "Model" [] []] := by
      simp [f1]
    rw [x_seq, a1]
    rfl
  unfold pureD mkD
  simp only [List.length_nil, Nat.add_zero, List.nil_append]
  rw [h]
  rfl
theorem make_fr {m : Nat} (hm : 3 < m) {A : Mo} (hA : A.Good) {st : RS} (e1 : st.wo = (A.n : Int)) (e2 : st.ps = A.pairs.map castP) (nd : (st.vs.map (·.1)).Nodup) (hl : ∀ p ∈ st.vs, p.2.length < 64) (hsz : st.vs.length < 1000) :
    ev m .f_Model [frI st, vI st.vs] R [] = if (kvs st).all (KV.ok A.n) = true then .ok (A2 A (toN (kvs st))).progD [] else .exn "InvalidModel" [] [] [] := by
  obtain ⟨m, rfl⟩ : ∃ m', m = m' + 1 + 1 := ⟨m - 2, by omega⟩
  rw [q_Model, q_Model_init, kvs_D]
  have nd' : ((kvs st).map (·.x)).Nodup := by
    unfold kvs
    rw [List.map_map]
    exact nd
  have h := make_gen (m := m) (by omega) (n := A.n) (l := A.pairs) (kv := kvs st) hA.pos (by have := hA.few; omega) (Mo.pairs_ok hA.few hA.prs) nd' R [] (fun p hp => by
    obtain ⟨q, hq, rfl⟩ := List.mem_map.mp hp
    exact ⟨fun w' => rfl, hl q hq⟩) (by unfold kvs; rw [List.length_map]; exact hsz)
  rw [A2_prog] at h
  have fe : frI st = frD A.n A.pairs := by
    unfold frI
    rw [e1, e2, List.map_map]
    rfl
  rw [fe]
  exact h
theorem e_write2 {m : Nat} (hm : 1 < m) {A : Mo} (hA : A.Good) (h10 : A.n < 10) {v : List (Str × List Nat)} (nd : (v.map (·.1)).Nodup) (hv : ∀ p ∈ v, ∀ i ∈ p.2, i < A.n) (hz : v.length ≤ 10) (hnm : ∀ p ∈ v, NameL (cp p.1)) (hp : ∀ p ∈ A.pairs, p.1 < A.n ∧ p.2 < A.n) {ro w : List D} :
    ev m .f_write_model [(A2 A v).progD] ro w = .ok (.str (mkS (mtx (mws A.n A.pairs (sortKV (keptS v)))))) w ∧ KvOk A.n (sortKV (keptS v)) ∧ ((keptS v).map (·.1)).Nodup := by
  have nk : ((keptS v).map (·.1)).Nodup := nd.sublist (kept_sub v)
  have km : ∀ p ∈ keptS v, ∃ q ∈ v, p = (q.1, srt q.2) := fun p hp => by
    unfold keptS at hp
    obtain ⟨q, hq, rfl⟩ := List.mem_map.mp hp
    exact ⟨q, (List.mem_filter.mp hq).1, rfl⟩
  have kl : (keptS v).length ≤ 10 := by
    have h1 := (kept_sub v).length_le
    rw [List.length_map, List.length_map] at h1
    omega
  have kv : KvOk A.n (keptS v) := ⟨fun p hp => by
    obtain ⟨q, hq, rfl⟩ := km p hp
    exact hnm q hq, fun p hp => by
    obtain ⟨q, hq, rfl⟩ := km p hp
    have h1 : ∀ i ∈ srt q.2, i < A.n := fun i hi => hv q hq i (mem_srt.mp hi)
    refine ⟨h1, ?_⟩
    have := Mo.asc_len (a := 0) (srt_asc q.2) fun w hw => ⟨Nat.zero_le _, h1 w hw⟩
    show (srt q.2).length ≤ 9
    omega, kl⟩
  have pm := sortKV_perm nk
  have h := e_write (A := A2 A v) (n := m) (ro := ro) (w := w) hm (A2_good hA nd hv (by omega)) h10 (by rw [A2_kept]; exact kv) hp
  rw [A2_kept] at h
  exact ⟨h, ⟨fun p hp => kv.nm p (pm.mem_iff.mp hp), fun p hp => kv.rg p (pm.mem_iff.mp hp), by rw [pm.length_eq]; exact kl⟩, nk⟩
/-- the text's lines are none of a model -/
def Fails (A : Mo) (L : List (List (List Nat))) (t : List Nat) : Prop :=
  rdL 0 L ⟨0, [], []⟩ = none ∨ ∃ st, rdL 0 L ⟨0, [], []⟩ = some st ∧ ((st.wo < 64 ∧ st.ps.length < 64 ∧ frB st.wo st.ps = false) ∨
    (st.wo = (A.n : Int) ∧ st.ps = A.pairs.map castP ∧ (st.vs.map (·.1)).Nodup ∧ (∀ p ∈ st.vs, p.2.length < 64 ∧ NameL (cp p.1)) ∧ st.vs.length ≤ 10 ∧ ((kvs st).all (KV.ok A.n) = true → mtx (mws A.n A.pairs (sortKV (keptS (toN (kvs st))))) ≠ mtx L ++ t)))
theorem toN_names (st : RS) : (toN (kvs st)).map (·.1) = st.vs.map (·.1) := by
  unfold toN kvs
  rw [List.map_map, List.map_map]
  rfl
theorem toN_rg {st : RS} {N : Nat} (h : (kvs st).all (KV.ok N) = true) : ∀ p ∈ toN (kvs st), ∀ i ∈ p.2, i < N := fun p hp i hi => by
  unfold toN at hp
  obtain ⟨q, hq, rfl⟩ := List.mem_map.mp hp
  obtain ⟨j, hj, rfl⟩ := List.mem_map.mp hi
  have h1 := List.all_eq_true.mp h q hq
  have h2 := of_decide_eq_true (List.all_eq_true.mp h1 j hj)
  omega
theorem txt_low {L : List (List (List Nat))} {t : List Nat} (all : ∀ ws ∈ L, LOk ws) (hlow : Low t) : SOk (mkS (mtx L ++ t)) := low_ok fun c hc => by
  rcases List.mem_append.mp hc with hc | hc
  · exact mtx_small (fun ws hws x hx => ((all ws hws).2.1 x hx).1) c hc
  · exact hlow c hc
theorem txt_len {L : List (List (List Nat))} {t : List Nat} (all : ∀ ws ∈ L, LOk ws) (hll : L.length ≤ 90) (ht : t.length ≤ 1000) : (mkS (mtx L ++ t)).length ≤ 1000000 := by
  have := mtx_len L (m := 100) (k := 100) fun ws hws => ⟨fun x hx => ((all ws hws).2.1 x hx).2, (all ws hws).2.2.1⟩
  have h2 : ((100 + 1) * 100 + 1) * L.length ≤ ((100 + 1) * 100 + 1) * 90 := Nat.mul_le_mul (Nat.le_refl _) hll
  rw [mk_len, List.length_append]
  omega
theorem read_no {m : Nat} (hm : 4 < m) {A : Mo} (hA : A.Good) (h10 : A.n < 10) (hp : ∀ p ∈ A.pairs, p.1 < A.n ∧ p.2 < A.n) {L : List (List (List Nat))} {t : List Nat} (all : ∀ ws ∈ L, LOk ws) (hll : L.length ≤ 90) (ht : 10 ∉ t) (htl : t.length ≤ 1000) (hlow : Low t) (F : Fails A L t) {ro w : List D} :
    ev m .f_read_model [.str (mkS (mtx L ++ t))] ro w = .exn "InvalidText" [] [] w := by
  obtain ⟨m, rfl⟩ : ∃ m', m = m' + 1 := ⟨m - 1, by omega⟩
  generalize hR : ro ++ w = R
  have run : ∃ w', runDef 1 12 (b_read_model (ev m)) [.str (mkS (mtx L ++ t))] R [] = .exn "InvalidText" [] [] w' := by
    have h := rd_from (R := R) (m := m) (by omega) (X := mkS (mtx L ++ t)) (LL := L) (t := t) rfl ht (txt_len all hll htl) all (by omega)
    rcases F with F | ⟨st, e, F⟩
    · rw [F] at h
      exact h
    · rw [e] at h
      obtain ⟨k5, k6, k7, k8, k9, h⟩ := h
      rw [h]
      rcases F with ⟨f1, f2, f3⟩ | ⟨f1, f2, f3, f4, f5, f6⟩
      · exact end_bad (make_nofr (by omega) f1 f2 f3)
      · have mk := make_fr (R := R) (m := m) (by omega) hA f1 f2 f3 (fun p hp => (f4 p hp).1) (by omega)
        by_cases c : (kvs st).all (KV.ok A.n) = true
        · rw [if_pos c] at mk
          have nt : ((toN (kvs st)).map (·.1)).Nodup := by rw [toN_names]; exact f3
          have lt : (toN (kvs st)).length ≤ 10 := by
            unfold toN kvs
            rw [List.length_map, List.length_map]
            exact f5
          obtain ⟨wr, kv, _⟩ := e_write2 (m := m) (by omega) hA h10 nt (toN_rg c) lt (fun p hp => by
            unfold toN kvs at hp
            rw [List.map_map] at hp
            obtain ⟨q, hq, rfl⟩ := List.mem_map.mp hp
            exact (f4 q hq).2) hp (ro := R) (w := [])
          have := end_ok (X := mkS (mtx L ++ t)) (LL := L) (t := t) (k5 := k5) (k6 := k6) (k7 := k7) (k8 := k8) (k9 := k9) mk wr (txt_low all hlow) (mws_small kv h10 hp) rfl rfl
          rw [if_neg (fun e => f6 c (mk_eq e))] at this
          exact ⟨[], this⟩
        · rw [if_neg c] at mk
          exact end_bad mk
  obtain ⟨w', run⟩ := run
  rw [show ev (m + 1) .f_read_model = pureD (runDef 1 12 (b_read_model (ev m))) from rfl]
  unfold pureD
  rw [hR, run]
  rfl
theorem read_yes {m : Nat} (hm : 4 < m) {A : Mo} (hA : A.Good) (h10 : A.n < 10) (hp : ∀ p ∈ A.pairs, p.1 < A.n ∧ p.2 < A.n) {L : List (List (List Nat))} {st : RS} (all : ∀ ws ∈ L, LOk ws) (hll : L.length ≤ 90) (e : rdL 0 L ⟨0, [], []⟩ = some st)
    (f1 : st.wo = (A.n : Int)) (f2 : st.ps = A.pairs.map castP) (f3 : (st.vs.map (·.1)).Nodup) (f4 : ∀ p ∈ st.vs, p.2.length < 64 ∧ NameL (cp p.1)) (f5 : st.vs.length ≤ 10) (c : (kvs st).all (KV.ok A.n) = true) (f6 : mws A.n A.pairs (sortKV (keptS (toN (kvs st)))) = L) {ro w : List D} :
    ev m .f_read_model [.str (mkS (mtx L))] ro w = .ok (A2 A (toN (kvs st))).progD w := by
  obtain ⟨m, rfl⟩ : ∃ m', m = m' + 1 := ⟨m - 1, by omega⟩
  generalize hR : ro ++ w = R
  have n0 : (10 : Nat) ∉ ([] : List Nat) := by simp
  have tl := txt_len (t := []) all hll (by simp)
  have tlow := txt_low (t := []) all (fun c hc => by cases hc)
  rw [List.append_nil] at tl tlow
  have run : runDef 1 12 (b_read_model (ev m)) [.str (mkS (mtx L))] R [] = .ok (A2 A (toN (kvs st))).progD [] := by
    have h := rd_from (R := R) (m := m) (by omega) (X := mkS (mtx L)) (LL := L) (t := []) (by rw [List.append_nil]) n0 tl all (by omega)
    rw [e] at h
    obtain ⟨k5, k6, k7, k8, k9, h⟩ := h
    rw [h]
    have mk := make_fr (R := R) (m := m) (by omega) hA f1 f2 f3 (fun p hp => (f4 p hp).1) (by omega)
    rw [if_pos c] at mk
    have nt : ((toN (kvs st)).map (·.1)).Nodup := by rw [toN_names]; exact f3
    have lt : (toN (kvs st)).length ≤ 10 := by
      unfold toN kvs
      rw [List.length_map, List.length_map]
      exact f5
    obtain ⟨wr, kv, _⟩ := e_write2 (m := m) (by omega) hA h10 nt (toN_rg c) lt (fun p hp => by
      unfold toN kvs at hp
      rw [List.map_map] at hp
      obtain ⟨q, hq, rfl⟩ := List.mem_map.mp hp
      exact (f4 q hq).2) hp (ro := R) (w := [])
    have := end_ok (X := mkS (mtx L)) (LL := L) (t := []) (k5 := k5) (k6 := k6) (k7 := k7) (k8 := k8) (k9 := k9) mk wr tlow (mws_small kv h10 hp) rfl rfl
    rw [if_pos (by rw [f6])] at this
    exact this
  rw [show ev (m + 1) .f_read_model = pureD (runDef 1 12 (b_read_model (ev m))) from rfl]
  unfold pureD
  rw [hR, run]
  simp only [tell_self _ prog_und]
theorem refused {m : Nat} (hm : 5 < m) {A : Mo} (hA : A.Good) (h10 : A.n < 10) (hp : ∀ p ∈ A.pairs, p.1 < A.n ∧ p.2 < A.n) {L : List (List (List Nat))} {t : List Nat} (all : ∀ ws ∈ L, LOk ws) (hll : L.length ≤ 90) (ht : 10 ∉ t) (htl : t.length ≤ 1000) (hlow : Low t) (F : Fails A L t) {ro w : List D} :
    ev m .f_law_refused [.str (mkS (mtx L ++ t))] ro w = .ok (.bl true) w := by
  obtain ⟨m, rfl⟩ : ∃ m', m = m' + 1 := ⟨m - 1, by omega⟩
  generalize hR : ro ++ w = R
  have rn := read_no (m := m) (by omega) hA h10 hp all hll ht htl hlow F (ro := R) (w := [])
  have i1 : ("InvalidText" : Str) ∈ csL := by decide
  have s1 : subO csL subL "ElsewhereError" "InvalidText" = some true := by decide
  have s2 : subL "InvalidText" "InvalidText" = true := by decide
  have run : runDef 1 2 (b_law_refused (ev m)) [.str (mkS (mtx L ++ t))] R [] = .ok (.bl true) [] := by
    rw [x_def]
    simp only [List.length_cons, List.length_nil, Nat.zero_add, Nat.reduceAdd, if_true, List.map_cons, List.map_nil, Nat.reduceSub, List.replicate, List.cons_append, List.nil_append, List.append_nil]
    unfold b_law_refused
    have b : (sExpr (cCall (fun ds => if ds.length = 1 then ev m .f_read_model ds else M.no) (cArgs [cVar 0]))) [some (.str (mkS (mtx L ++ t))), none] R [] = .exn "InvalidText" [] [] [some (.str (mkS (mtx L ++ t))), none] [] := by
      simp only [x_expr, x_call, x_args, x_args0, x_var, List.getElem?_cons_zero, ofO_ss, an_ok, List.length_cons, List.length_nil, Nat.zero_add, Nat.reduceAdd, if_true, rn]
      rfl
    rw [x_seq]
    unfold sTryAE
    rw [b]
    simp only [s1, if_pos i1, s2]
    rfl
  rw [show ev (m + 1) .f_law_refused = pureD (runDef 1 2 (b_law_refused (ev m))) from rfl]
  unfold pureD
  rw [hR, run]
  rfl
end
/-! ### the plain law: each fault is refused -/
abbrev Tp : List (List Nat) := wdT ("p", [0, 1])
abbrev Tq (N : Nat) : List (List Nat) := wdT ("q", [N - 1])
def goodW (x : List Nat) : Bool := !x.contains 32 && !x.contains 10 && x.all (fun c => decide (c < 128)) && decide (x.length ≤ 100)
def nmish (x : List Nat) : Bool := nmB x || decide (x.length = 0) || decide (12 < x.length) || (match x with | [] => true | c :: _ => !leB c)
def lokB (ws : List (List Nat)) : Bool := !ws.isEmpty && ws.all goodW && decide (ws.length ≤ 100) && nmish (ws.getD 1 [])
theorem nmB_name {x : List Nat} (h : nmB x = true) : NameL x := by
  cases x with
  | nil => cases h
  | cons c r =>
    have h' : (decide (r.length < 12) && leB c && (c :: r).all alB) = true := h
    rw [Bool.and_eq_true, Bool.and_eq_true] at h'
    obtain ⟨⟨h1, h2⟩, h3⟩ := h'
    have h1 := of_decide_eq_true h1
    exact ⟨by simp only [List.length_cons]; omega, List.all_eq_true.mp h3, c, r, rfl, h2⟩
theorem lok_of {ws : List (List Nat)} (h : lokB ws = true) : LOk ws := by
  unfold lokB at h
  rw [Bool.and_eq_true, Bool.and_eq_true, Bool.and_eq_true] at h
  obtain ⟨⟨⟨h1, h2⟩, h3⟩, h4⟩ := h
  have gw : ∀ x ∈ ws, (32 ∉ x ∧ 10 ∉ x) ∧ Low x ∧ x.length ≤ 100 := fun x hx => by
    have := List.all_eq_true.mp h2 x hx
    unfold goodW at this
    rw [Bool.and_eq_true, Bool.and_eq_true, Bool.and_eq_true] at this
    obtain ⟨⟨⟨a, b⟩, c⟩, d⟩ := this
    refine ⟨⟨fun m => ?_, fun m => ?_⟩, fun e he => of_decide_eq_true (List.all_eq_true.mp c e he), of_decide_eq_true d⟩
    · have : x.contains 32 = true := by simpa using m
      rw [this] at a
      cases a
    · have : x.contains 10 = true := by simpa using m
      rw [this] at b
      cases b
  refine ⟨⟨fun e => (by rw [e] at h1; cases h1), fun x hx => (gw x hx).1⟩, fun x hx => (gw x hx).2, of_decide_eq_true h3, ?_⟩
  unfold nmish at h4
  rw [Bool.or_eq_true, Bool.or_eq_true, Bool.or_eq_true] at h4
  show NameL (ws.getD 1 []) ∨ BadN (ws.getD 1 [])
  generalize ws.getD 1 [] = y at h4 ⊢
  rcases h4 with ((h4 | h4) | h4) | h4
  · exact .inl (nmB_name h4)
  · exact .inr (.inl (of_decide_eq_true h4))
  · exact .inr (.inr (.inl (of_decide_eq_true h4)))
  · cases y with
    | nil => exact .inr (.inl rfl)
    | cons c r =>
      refine .inr (.inr (.inr ⟨c, r, rfl, ?_⟩))
      have h4' : (!leB c) = true := h4
      cases q : leB c with
      | true => rw [q] at h4'; cases h4'
      | false => rfl
theorem lok_W {k : Nat} (h : k < 10) : lokB (wdW k) = true ∧ lokB (wdW k ++ [[]]) = true ∧ lokB ([] :: wdW k) = true ∧ lokB [cp "worlds", [], dg k] = true := by
  have key : ∀ k < 10, lokB (wdW k) = true ∧ lokB (wdW k ++ [[]]) = true ∧ lokB ([] :: wdW k) = true ∧ lokB [cp "worlds", [], dg k] = true := by decide +kernel
  exact key k h
theorem lok_S {i j : Nat} (h : i < 10) (h2 : j < 10) : lokB (wdS (i, j)) = true ∧ lokB (wdS (i, j) ++ [[]]) = true ∧ lokB ([] :: wdS (i, j)) = true ∧ lokB [cp "sees", [], dg i, dg j] = true := by
  have key : ∀ i < 10, ∀ j < 10, lokB (wdS (i, j)) = true ∧ lokB (wdS (i, j) ++ [[]]) = true ∧ lokB ([] :: wdS (i, j)) = true ∧ lokB [cp "sees", [], dg i, dg j] = true := by decide +kernel
  exact key i h j h2
theorem lok_Tp : lokB Tp = true ∧ lokB (Tp ++ [[]]) = true ∧ lokB ([] :: Tp) = true ∧ lokB [cp "true", [], cp "p", dg 0, dg 1] = true := by decide +kernel
theorem lok_Tq {N : Nat} (h : N < 10) : lokB (Tq N) = true ∧ lokB (Tq N ++ [[]]) = true ∧ lokB ([] :: Tq N) = true ∧ lokB [cp "true", [], cp "q", dg (N - 1)] = true := by
  have key : ∀ N < 10, lokB (Tq N) = true ∧ lokB (Tq N ++ [[]]) = true ∧ lokB ([] :: Tq N) = true ∧ lokB [cp "true", [], cp "q", dg (N - 1)] = true := by decide +kernel
  exact key N h
structure Bas (N : Nat) (s : Nat → Nat → Bool) : Prop where
  lo : 2 ≤ N
  hi : N ≤ 5
  s0 : s 0 0 = true
  s1 : s 1 1 = true
abbrev Am (N : Nat) (s : Nat → Nat → Bool) : Mo := ⟨N, s, []⟩
section
variable {N : Nat} {s : Nat → Nat → Bool}
theorem Bas.good (B : Bas N s) : (Am N s).Good := ⟨by have := B.lo; show 0 < N; omega, by have := B.hi; show N < 25; omega, by simp, by simp, by simp, Mo.prs_few (A := Am N s) (by have := B.hi; show N ≤ 7; omega)⟩
theorem prs_lt {A : Mo} : ∀ p ∈ A.pairs, p.1 < A.n ∧ p.2 < A.n := fun p hp => by
  unfold Mo.pairs at hp
  obtain ⟨i, hi, hm⟩ := List.mem_flatMap.mp hp
  obtain ⟨j, hj, rfl⟩ := List.mem_map.mp hm
  unfold Mo.row at hj
  exact ⟨List.mem_range.mp hi, List.mem_range.mp (List.mem_filter.mp hj).1⟩
theorem Bas.lt10 (B : Bas N s) : ∀ p ∈ (Am N s).pairs, p.1 < 10 ∧ p.2 < 10 := fun p hp => by
  have := prs_lt (A := Am N s) p hp
  have := B.hi
  have h1 : p.1 < N := (prs_lt (A := Am N s) p hp).1
  have h2 : p.2 < N := (prs_lt (A := Am N s) p hp).2
  omega
theorem Bas.few (B : Bas N s) : (Am N s).pairs.length ≤ 25 := by
  have h1 : (Am N s).pairs.length ≤ N * N := (Mo.blocks (A := Am N s) (show N < 25 by have := B.hi; omega) N (Nat.le_refl _)).2.1
  have h2 : N * N ≤ 5 * 5 := Nat.mul_le_mul B.hi B.hi
  omega
theorem mem_prs {i j : Nat} (hi : i < N) (hj : j < N) (h : s i j = true) : (i, j) ∈ (Am N s).pairs := by
  unfold Mo.pairs
  exact List.mem_flatMap.mpr ⟨i, List.mem_range.mpr hi, List.mem_map.mpr ⟨j, by unfold Mo.row; exact List.mem_filter.mpr ⟨List.mem_range.mpr hj, h⟩, rfl⟩⟩
theorem Bas.asc (B : Bas N s) : (Am N s).pairs.Pairwise fun p q => p.1 * 64 + p.2 < q.1 * 64 + q.2 := (Mo.pairs_ok (A := Am N s) B.good.few B.good.prs).2.1
theorem Bas.fst (B : Bas N s) : ∃ P, (Am N s).pairs = (0, 0) :: P := by
  have m := mem_prs (N := N) (s := s) (i := 0) (j := 0) (by have := B.lo; omega) (by have := B.lo; omega) B.s0
  have a := B.asc
  cases e : (Am N s).pairs with
  | nil => rw [e] at m; cases m
  | cons p P =>
    rw [e] at m a
    rcases List.mem_cons.mp m with h | h
    · exact ⟨P, by rw [← h]⟩
    · have := List.rel_of_pairwise_cons a h
      simp at this
theorem Bas.m11 (B : Bas N s) : (1, 1) ∈ (Am N s).pairs := mem_prs (by have := B.lo; omega) (by have := B.lo; omega) B.s1
theorem key_two (p : Nat × Nat) : pairK (two (castP p)) = (p.1 : Int) * 64 + p.2 := pairK_two
/-- the last lines -/
theorem rdL_TT {a : Nat} (ha : 0 < a) {wo : Int} {ps : List (Int × Int)} (hN : N ≤ 5) : rdL a [Tp, Tq N] ⟨wo, ps, []⟩ = some ⟨wo, ps, [castV ("p", [0, 1]), castV ("q", [N - 1])]⟩ := by
  have ep : Tp = cp "true" :: cp "p" :: [dg 0, dg 1] := rfl
  have eq : Tq N = cp "true" :: cp "q" :: [dg (N - 1)] := rfl
  have s1 := st_T (a := a) (x := cp "p") (r := [dg 0, dg 1]) (st := ⟨wo, ps, []⟩) ha (by simp) (by decide) (by simp)
  rw [ep, eq, rdL_cons s1]
  have hq : mkS (cp "q") ∉ ([] ++ [(mkS (cp "p"), [dg 0, dg 1].map numI)] : List (Str × List Int)).map (·.1) := by
    rw [List.nil_append, List.map_cons, List.map_nil, List.mem_singleton, mk_cp, mk_cp]
    decide
  rw [rdL_cons (st_T (a := a + 1) (x := cp "q") (r := [dg (N - 1)]) (st := ⟨wo, ps, [] ++ [(mkS (cp "p"), [dg 0, dg 1].map numI)]⟩) (by omega) (by simp) (by decide) hq)]
  have e1 : [dg 0, dg 1].map numI = [0, 1] := by decide
  have e2 : [dg (N - 1)].map numI = [((N - 1 : Nat) : Int)] := by
    rw [List.map_cons, List.map_nil, numI_dg (by omega)]
  rw [e1, e2, mk_cp, mk_cp]
  rfl
theorem rdL_Tp {a : Nat} (ha : 0 < a) {wo : Int} {ps : List (Int × Int)} {T : List (List (List Nat))} : rdL a (Tp :: T) ⟨wo, ps, []⟩ = rdL (a + 1) T ⟨wo, ps, [castV ("p", [0, 1])]⟩ := by
  have ep : Tp = cp "true" :: cp "p" :: [dg 0, dg 1] := rfl
  have s1 := st_T (a := a) (x := cp "p") (r := [dg 0, dg 1]) (st := ⟨wo, ps, []⟩) ha (by simp) (by decide) (by simp)
  rw [ep, rdL_cons s1]
  have e1 : [dg 0, dg 1].map numI = [0, 1] := by decide
  rw [e1, mk_cp]
  rfl
theorem rdL_mid {k : Nat} (hk : k < 10) {Q : List (Nat × Nat)} (h : ∀ p ∈ Q, p.1 < 10 ∧ p.2 < 10) {T : List (List (List Nat))} : rdL 0 (wdW k :: (Q.map wdS ++ T)) ⟨0, [], []⟩ = rdL (1 + Q.length) T ⟨(k : Int), Q.map castP, []⟩ := by
  rw [rdL_W hk, rdL_pairs Q T 1 _ (by decide) h]
  rfl
abbrev L0 (N : Nat) (s : Nat → Nat → Bool) : List (List (List Nat)) := wdW N :: ((Am N s).pairs.map wdS ++ [Tp, Tq N])
/-- pairs that don't ascend -/
theorem f_pairs (B : Bas N s) {Q : List (Nat × Nat)} (h : ∀ p ∈ Q, p.1 < 10 ∧ p.2 < 10) (hl : Q.length < 64) (hq : ¬ Q.Pairwise fun p q => p.1 * 64 + p.2 < q.1 * 64 + q.2) {t : List Nat} : Fails (Am N s) (wdW N :: (Q.map wdS ++ [Tp, Tq N])) t := by
  refine .inr ⟨_, (rdL_mid (by have := B.hi; omega) h).trans (rdL_TT (by omega) B.hi), .inl ⟨by have := B.hi; show (N : Int) < 64; omega, by rw [List.length_map]; exact hl, fr_asc fun c => hq ?_⟩⟩
  have c' : ((Q.map castP).map two).Pairwise fun x y => pairK x < pairK y := c
  rw [List.map_map, List.pairwise_map] at c'
  refine c'.imp fun {x y} z => ?_
  have z' : pairK (two (castP x)) < pairK (two (castP y)) := z
  rw [key_two, key_two] at z'
  omega
theorem f_dup (B : Bas N s) {P1 P2 : List (Nat × Nat)} {x : Nat × Nat} (e : (Am N s).pairs = P1 ++ x :: P2) {t : List Nat} : Fails (Am N s) (wdW N :: ((P1 ++ x :: x :: P2).map wdS ++ [Tp, Tq N])) t := by
  have lt := B.lt10
  have fw := B.few
  rw [e] at lt fw
  refine f_pairs B (fun p hp => lt p (by simp only [List.mem_append, List.mem_cons] at hp ⊢; rcases hp with h | h | h | h <;> simp [h])) (by simp only [List.length_append, List.length_cons] at fw ⊢; omega) fun c => ?_
  have c2 := (List.pairwise_append.mp c).2.1
  have := List.rel_of_pairwise_cons c2 (List.mem_cons_self ..)
  omega
theorem f_swap (B : Bas N s) {P1 P2 : List (Nat × Nat)} {x y : Nat × Nat} (e : (Am N s).pairs = P1 ++ x :: y :: P2) {t : List Nat} : Fails (Am N s) (wdW N :: ((P1 ++ y :: x :: P2).map wdS ++ [Tp, Tq N])) t := by
  have lt := B.lt10
  have fw := B.few
  have a := B.asc
  rw [e] at lt fw a
  refine f_pairs B (fun p hp => lt p (by simp only [List.mem_append, List.mem_cons] at hp ⊢; rcases hp with h | h | h | h <;> simp [h])) (by simp only [List.length_append, List.length_cons] at fw ⊢; omega) fun c => ?_
  have c2 := List.rel_of_pairwise_cons (List.pairwise_append.mp c).2.1 (List.mem_cons_self ..)
  have a2 := List.rel_of_pairwise_cons (List.pairwise_append.mp a).2.1 (List.mem_cons_self ..)
  omega
/-- a first line that is none -/
theorem f_first {L : List (List (List Nat))} {ws : List (List Nat)} {A : Mo} {t : List Nat} (h : ∀ st, rdStep 0 ws st = none) : Fails A (ws :: L) t := .inl (rdL_none (h _))
theorem f_line (B : Bas N s) {P1 : List (Nat × Nat)} (hp : ∀ p ∈ P1, p.1 < 10 ∧ p.2 < 10) {ws : List (List Nat)} {X : List (List (List Nat))} {t : List Nat} (h : ∀ a st, 0 < a → rdStep a ws st = none) : Fails (Am N s) (wdW N :: (P1.map wdS ++ ws :: X)) t :=
  .inl ((rdL_mid (by have := B.hi; omega) hp).trans (rdL_none (h _ _ (by omega))))
theorem f_line2 (B : Bas N s) {ws : List (List Nat)} {X : List (List (List Nat))} {t : List Nat} (h : ∀ a wo ps, 0 < a → rdStep a ws ⟨wo, ps, [castV ("p", [0, 1])]⟩ = none) : Fails (Am N s) (wdW N :: ((Am N s).pairs.map wdS ++ Tp :: ws :: X)) t :=
  .inl ((rdL_mid (by have := B.hi; omega) B.lt10).trans ((rdL_Tp (by omega)).trans (rdL_none (h _ _ _ (by omega)))))
theorem f_line3 (B : Bas N s) {ws : List (List Nat)} {t : List Nat} (h : ∀ a wo ps, 0 < a → rdStep a ws ⟨wo, ps, [castV ("p", [0, 1]), castV ("q", [N - 1])]⟩ = none) : Fails (Am N s) (L0 N s ++ [ws]) t := by
  refine .inl ?_
  have e : L0 N s ++ [ws] = wdW N :: ((Am N s).pairs.map wdS ++ (Tp :: Tq N :: [ws])) := by simp [L0]
  have eq : Tq N = cp "true" :: cp "q" :: [dg (N - 1)] := rfl
  have hq : mkS (cp "q") ∉ ([castV ("p", [0, 1])] : List (Str × List Int)).map (·.1) := by
    rw [List.map_cons, List.map_nil, List.mem_singleton, mk_cp]
    decide
  have e2 : [dg (N - 1)].map numI = [((N - 1 : Nat) : Int)] := by
    rw [List.map_cons, List.map_nil, numI_dg (by have := B.hi; omega)]
  rw [e]
  refine (rdL_mid (by have := B.hi; omega) B.lt10).trans ((rdL_Tp (by omega)).trans ?_)
  rw [eq, rdL_cons (st_T (x := cp "q") (r := [dg (N - 1)]) (by omega) (by simp) (by decide) hq), e2, mk_cp]
  exact rdL_none (h _ _ _ (by omega))
end
section
variable {N : Nat} {s : Nat → Nat → Bool}
theorem rdL_T {a : Nat} (ha : 0 < a) {x : Str} {l : List Nat} (hx : nmB (cp x) = true) (hl : 0 < l.length) (h10 : ∀ i ∈ l, i < 10) {wo : Int} {ps : List (Int × Int)} {V : List (Str × List Nat)} (hn : x ∉ V.map (·.1)) {T : List (List (List Nat))} :
    rdL a (wdT (x, l) :: T) ⟨wo, ps, V.map castV⟩ = rdL (a + 1) T ⟨wo, ps, (V ++ [(x, l)]).map castV⟩ := by
  have e : wdT (x, l) = cp "true" :: cp x :: l.map dg := rfl
  have hn' : mkS (cp x) ∉ (V.map castV).map (·.1) := by
    rw [mk_cp, List.map_map]
    exact hn
  rw [e, rdL_cons (st_T (x := cp x) (r := l.map dg) ha (by rw [List.length_map]; exact hl) hx hn'), nums_dg h10, mk_cp, List.map_append]
  rfl
theorem toN_cast (V : List (Str × List Nat)) (wo : Int) (ps : List (Int × Int)) : toN (kvs ⟨wo, ps, V.map castV⟩) = V := by
  unfold toN kvs
  rw [List.map_map, List.map_map]
  refine (List.map_congr_left (g := id) fun p _ => ?_).trans (List.map_id _)
  show (p.1, (p.2.map fun i : Nat => (i : Int)).map Int.toNat) = p
  rw [List.map_map]
  have : p.2.map (Int.toNat ∘ fun i : Nat => (i : Int)) = p.2 := (List.map_congr_left (g := id) fun i _ => rfl).trans (List.map_id _)
  rw [this]
theorem wok_mws (B : Bas N s) {W : List (Str × List Nat)} (hW : ∀ p ∈ W, lokB (wdT p) = true) : ∀ ws ∈ mws N (Am N s).pairs W, WOk ws := fun ws hws => by
  have h5 := B.hi
  rcases List.mem_cons.mp hws with rfl | hws
  · exact (lok_of (lok_W (by omega)).1).1
  · rcases List.mem_append.mp hws with hws | hws
    · obtain ⟨p, hp, rfl⟩ := List.mem_map.mp hws
      have := B.lt10 p hp
      exact (lok_of (lok_S this.1 this.2).1).1
    · obtain ⟨p, hp, rfl⟩ := List.mem_map.mp hws
      exact (lok_of (hW p hp)).1
theorem f_txt (B : Bas N s) {L : List (List (List Nat))} {t : List Nat} {V W : List (Str × List Nat)} (e : rdL 0 L ⟨0, [], []⟩ = some ⟨(N : Int), (Am N s).pairs.map castP, V.map castV⟩) (nd : (V.map (·.1)).Nodup) (nm : ∀ p ∈ V, nmB (cp p.1) = true) (sm : ∀ p ∈ V, p.2.length < 64) (few : V.length ≤ 10)
    (w : sortKV (keptS V) = W) (hW : ∀ p ∈ W, lokB (wdT p) = true) (hL : ∀ ws ∈ L, WOk ws) (ht : 10 ∉ t) (ne : t = [] → mws N (Am N s).pairs W ≠ L) : Fails (Am N s) L t := by
  refine .inr ⟨_, e, .inr ⟨rfl, rfl, ?_, fun p hp => ?_, ?_, fun _ => ?_⟩⟩
  · show ((V.map castV).map (·.1)).Nodup
    rw [List.map_map]
    exact nd
  · obtain ⟨q, hq, rfl⟩ := List.mem_map.mp hp
    refine ⟨?_, nmB_name (nm q hq)⟩
    show (q.2.map _).length < 64
    rw [List.length_map]
    exact sm q hq
  · show (V.map castV).length ≤ 10
    rw [List.length_map]
    exact few
  · rw [toN_cast, w]
    intro h
    obtain ⟨h1, h2⟩ := mtx_inj (wok_mws B hW) hL ht h
    exact ne h1 h2
theorem f_neg (B : Bas N s) {L : List (List (List Nat))} {t : List Nat} {v : List (Str × List Int)} (e : rdL 0 L ⟨0, [], []⟩ = some ⟨(N : Int), (Am N s).pairs.map castP, v⟩) (nd : (v.map (·.1)).Nodup) (nm : ∀ p ∈ v, p.2.length < 64 ∧ nmB (cp p.1) = true) (few : v.length ≤ 10) (h : ∃ p ∈ v, -1 ∈ p.2) : Fails (Am N s) L t := by
  refine .inr ⟨_, e, .inr ⟨rfl, rfl, nd, fun p hp => ⟨(nm p hp).1, nmB_name (nm p hp).2⟩, few, fun c => ?_⟩⟩
  obtain ⟨p, hp, hm⟩ := h
  have h1 := List.all_eq_true.mp c (⟨p.1, iD p.2, p.2⟩ : KV) (List.mem_map_of_mem (f := fun p : Str × List Int => (⟨p.1, iD p.2, p.2⟩ : KV)) hp)
  have h2 := of_decide_eq_true (List.all_eq_true.mp h1 (-1) hm)
  omega
theorem n_p : nmB (cp "p") = true := by decide
theorem n_q : nmB (cp "q") = true := by decide
theorem n_a : nmB (cp "a") = true := by decide
theorem ne_qp : ("q" : Str) ≠ "p" := by decide
theorem ne_ap : ("a" : Str) ≠ "p" := by decide
theorem ne_aq : ("a" : Str) ≠ "q" := by decide
theorem rdL_base (B : Bas N s) {T : List (List (List Nat))} : rdL 0 (wdW N :: ((Am N s).pairs.map wdS ++ T)) ⟨0, [], []⟩ = rdL (1 + (Am N s).pairs.length) T ⟨(N : Int), (Am N s).pairs.map castP, ([] : List (Str × List Nat)).map castV⟩ := rdL_mid (by have := B.hi; omega) B.lt10
theorem rdL_baseP (B : Bas N s) {T : List (List (List Nat))} : rdL 0 (wdW N :: ((Am N s).pairs.map wdS ++ Tp :: T)) ⟨0, [], []⟩ = rdL (1 + (Am N s).pairs.length + 1) T ⟨(N : Int), (Am N s).pairs.map castP, [(("p" : Str), [0, 1])].map castV⟩ := (rdL_base B).trans (rdL_T (V := []) (by omega) n_p (by decide) (by decide) (by simp))
theorem hp10 (B : Bas N s) : ∀ i ∈ [N - 1], i < 10 := fun i hi => by
  rw [List.mem_singleton.mp hi]
  have := B.hi
  omega
theorem rdL_baseQ (B : Bas N s) {T : List (List (List Nat))} : rdL 0 (wdW N :: ((Am N s).pairs.map wdS ++ Tp :: Tq N :: T)) ⟨0, [], []⟩ = rdL (1 + (Am N s).pairs.length + 1 + 1) T ⟨(N : Int), (Am N s).pairs.map castP, [(("p" : Str), [0, 1]), ("q", [N - 1])].map castV⟩ := (rdL_baseP B).trans (rdL_T (V := [(("p" : Str), [0, 1])]) (by omega) n_q (by simp) (hp10 B) (by simp [ne_qp]))
/-- what holds of the lines of the law -/
theorem lok_base (B : Bas N s) : LOk (wdW N) ∧ (∀ ws ∈ (Am N s).pairs.map wdS, LOk ws) ∧ LOk Tp ∧ LOk (Tq N) := by
  have h5 := B.hi
  refine ⟨lok_of (lok_W (by omega)).1, fun ws hws => ?_, lok_of lok_Tp.1, lok_of (lok_Tq (by omega)).1⟩
  obtain ⟨p, hp, rfl⟩ := List.mem_map.mp hws
  have := B.lt10 p hp
  exact lok_of (lok_S this.1 this.2).1
theorem lok_L0 (B : Bas N s) : ∀ ws ∈ L0 N s, LOk ws := fun ws hws => by
  obtain ⟨h1, h2, h3, h4⟩ := lok_base B
  rcases List.mem_cons.mp hws with rfl | hws
  · exact h1
  · rcases List.mem_append.mp hws with hws | hws
    · exact h2 ws hws
    · simp only [List.mem_cons, List.not_mem_nil, or_false] at hws
      rcases hws with rfl | rfl
      · exact h3
      · exact h4
theorem sortKV_is {v W : List (Str × List Nat)} (nd : (W.map (·.1)).Nodup) (p : v.Perm W) (hs : (W.map (·.1)).Pairwise fun a b => leT a b = true) : sortKV v = W := by
  rw [sortKV_congr nd p]
  exact sortKV_id nd hs
theorem le_apq : leT "a" "p" = true ∧ leT "a" "q" = true ∧ leT "p" "q" = true := by decide +kernel
theorem nd_pq {l m : List Nat} : (([(("p" : Str), l), ("q", m)] : List (Str × List Nat)).map (·.1)).Nodup ∧ (([(("p" : Str), l), ("q", m)] : List (Str × List Nat)).map (·.1)).Pairwise fun a b => leT a b = true := ⟨by simp [ne_qp.symm], by simp [le_apq.2.2]⟩
theorem nd_apq {l m k : List Nat} : (([(("a" : Str), k), ("p", l), ("q", m)] : List (Str × List Nat)).map (·.1)).Nodup ∧ (([(("a" : Str), k), ("p", l), ("q", m)] : List (Str × List Nat)).map (·.1)).Pairwise fun a b => leT a b = true := ⟨by simp [ne_qp.symm, ne_ap, ne_aq], by simp [le_apq.2.2, le_apq.1, le_apq.2.1]⟩
theorem kept_N : ∀ N, 2 ≤ N → N ≤ 5 → keptS [(("p" : Str), [0, 1]), ("q", [N - 1])] = [(("p" : Str), [0, 1]), ("q", [N - 1])] ∧ keptS [(("q" : Str), [N - 1]), ("p", [0, 1])] = [(("q" : Str), [N - 1]), ("p", [0, 1])] ∧ keptS [(("p" : Str), [0, 1]), ("q", [N - 1]), ("a", [0])] = [(("p" : Str), [0, 1]), ("q", [N - 1]), ("a", [0])] := fun N h1 h2 => by
  have : N = 2 ∨ N = 3 ∨ N = 4 ∨ N = 5 := by omega
  rcases this with rfl | rfl | rfl | rfl
  · decide +kernel
  · decide +kernel
  · decide +kernel
  · decide +kernel
theorem kept_pq : ∀ N, 2 ≤ N → N ≤ 5 → sortKV (keptS [(("p" : Str), [0, 1]), ("q", [N - 1])]) = [(("p" : Str), [0, 1]), ("q", [N - 1])] ∧ sortKV (keptS [(("q" : Str), [N - 1]), ("p", [0, 1])]) = [(("p" : Str), [0, 1]), ("q", [N - 1])] ∧ sortKV (keptS [(("p" : Str), [0, 1]), ("q", [N - 1]), ("a", [0])]) = [(("a" : Str), [0]), ("p", [0, 1]), ("q", [N - 1])] := fun N h1 h2 => by
  obtain ⟨e1, e2, e3⟩ := kept_N N h1 h2
  rw [e1, e2, e3]
  exact ⟨sortKV_is nd_pq.1 (List.Perm.refl _) nd_pq.2, sortKV_is nd_pq.1 (List.Perm.swap ..) nd_pq.2, sortKV_is nd_apq.1 (((List.Perm.swap _ _ _).cons _).trans (List.Perm.swap _ _ _)) nd_apq.2⟩
theorem kept_p : sortKV (keptS [(("p" : Str), [0, 1])]) = [(("p" : Str), [0, 1])] := by
  have e : keptS [(("p" : Str), [0, 1])] = [(("p" : Str), [0, 1])] := by decide +kernel
  rw [e]
  exact sortKV_is (by simp) (List.Perm.refl _) (by simp)
theorem kept_10 : sortKV (keptS [(("p" : Str), [0, 1]), ("q", [1, 0])]) = [(("p" : Str), [0, 1]), ("q", [0, 1])] := by
  have e : keptS [(("p" : Str), [0, 1]), ("q", [1, 0])] = [(("p" : Str), [0, 1]), ("q", [0, 1])] := by decide +kernel
  rw [e]
  exact sortKV_is nd_pq.1 (List.Perm.refl _) nd_pq.2
theorem kept_00 : sortKV (keptS [(("p" : Str), [0, 1]), ("q", [0, 0])]) = [(("p" : Str), [0, 1]), ("q", [0])] := by
  have e : keptS [(("p" : Str), [0, 1]), ("q", [0, 0])] = [(("p" : Str), [0, 1]), ("q", [0])] := by decide +kernel
  rw [e]
  exact sortKV_is nd_pq.1 (List.Perm.refl _) nd_pq.2
theorem lk_p : lokB (wdT ("p", [0, 1])) = true := by decide +kernel
theorem lk_a : lokB (wdT ("a", [0])) = true := by decide +kernel
/-- the last line feed left out -/
theorem f_0 (B : Bas N s) : Fails (Am N s) (wdW N :: ((Am N s).pairs.map wdS ++ [Tp])) (lnC (Tq N)) := by
  obtain ⟨h1, h2, h3, h4⟩ := lok_base B
  refine f_txt B (V := [(("p" : Str), [0, 1])]) (rdL_baseP B) (by simp) (by simp [n_p]) (by simp) (by simp) kept_p (by simp [lk_p]) (fun ws hws => ?_) (ln_free h4.1) fun e => ?_
  · rcases List.mem_cons.mp hws with rfl | hws
    · exact h1.1
    · rcases List.mem_append.mp hws with hws | hws
      · exact (h2 ws hws).1
      · rw [List.mem_singleton.mp hws]
        exact h3.1
  · have : lnC (Tq N) ≠ [] := by
      unfold lnC Tq wdT
      rw [join_ln]
      have c : cp "true" = 116 :: [114, 117, 101] := by decide
      rw [c]
      simp
    exact absurd e this
/-- the first line left out -/
theorem f_1 (B : Bas N s) : Fails (Am N s) ((L0 N s).drop 1) [] := by
  obtain ⟨P, e⟩ := B.fst
  show Fails _ ((Am N s).pairs.map wdS ++ [Tp, Tq N]) []
  rw [e, List.map_cons, List.cons_append]
  exact f_first fun st => st_Sno (.inl rfl)
/-- a pair's line behind the names -/
theorem f_3a (B : Bas N s) {P1 : List (Nat × Nat)} {x : Nat × Nat} (e : (Am N s).pairs = P1 ++ [x]) : Fails (Am N s) (wdW N :: (P1.map wdS ++ [Tp, wdS x, Tq N])) [] := by
  obtain ⟨h1, h2, h3, h4⟩ := lok_base B
  have h5 := B.hi
  have lt := B.lt10
  rw [e] at lt h2
  have lx := lt x (by simp)
  have rd : rdL 0 (wdW N :: (P1.map wdS ++ [Tp, wdS x, Tq N])) ⟨0, [], []⟩ = some ⟨(N : Int), (Am N s).pairs.map castP, [(("p" : Str), [0, 1]), ("q", [N - 1])].map castV⟩ := by
    refine (rdL_mid (by omega) fun p hp => lt p (by simp [hp])).trans ?_
    refine (rdL_T (V := []) (by omega) n_p (by decide) (by decide) (by simp)).trans ?_
    have es : wdS x = cp "sees" :: [dg x.1, dg x.2] := rfl
    rw [es, rdL_cons (st_S (r := [dg x.1, dg x.2]) (by omega) rfl)]
    simp only [List.map_cons, List.map_nil, List.getD_cons_zero, List.getD_cons_succ, numI_dg lx.1, numI_dg lx.2]
    refine (rdL_T (V := [(("p" : Str), [0, 1])]) (by omega) n_q (by simp) (hp10 B) (by simp [ne_qp])).trans ?_
    have em : (Am N s).pairs.map castP = P1.map castP ++ [castP x] := by rw [e, List.map_append]; rfl
    rw [em]
    rfl
  refine f_txt B rd (by simp [ne_qp.symm]) (by simp [n_p, n_q]) (by simp) (by simp) (kept_pq N B.lo B.hi).1 (by simp [lk_p, (lok_Tq (N := N) (by omega)).1]) (fun ws hws => ?_) (by simp) fun _ h => ?_
  · rcases List.mem_cons.mp hws with rfl | hws
    · exact h1.1
    · rcases List.mem_append.mp hws with hws | hws
      · exact (h2 ws (by rw [List.map_append]; exact List.mem_append_left _ hws)).1
      · simp only [List.mem_cons, List.not_mem_nil, or_false] at hws
        rcases hws with rfl | rfl | rfl
        · exact h3.1
        · exact (h2 (wdS x) (by simp)).1
        · exact h4.1
  · unfold mws at h
    rw [e, List.map_append, List.append_assoc, List.cons.injEq] at h
    have h := List.append_cancel_left h.2
    simp only [List.map_cons, List.map_nil, List.cons_append, List.nil_append, List.cons.injEq] at h
    have h : cp "sees" :: [dg x.1, dg x.2] = cp "true" :: [cp "p", dg 0, dg 1] := h.1
    exact absurd (List.cons.inj h).1 (by decide)
/-- the names in the wrong order -/
theorem f_3b (B : Bas N s) : Fails (Am N s) (wdW N :: ((Am N s).pairs.map wdS ++ [Tq N, Tp])) [] := by
  obtain ⟨h1, h2, h3, h4⟩ := lok_base B
  have h5 := B.hi
  have rd : rdL 0 (wdW N :: ((Am N s).pairs.map wdS ++ [Tq N, Tp])) ⟨0, [], []⟩ = some ⟨(N : Int), (Am N s).pairs.map castP, [(("q" : Str), [N - 1]), ("p", [0, 1])].map castV⟩ := by
    refine (rdL_base B).trans ?_
    refine (rdL_T (V := []) (by omega) n_q (by simp) (hp10 B) (by simp)).trans ?_
    exact rdL_T (V := [(("q" : Str), [N - 1])]) (by omega) n_p (by decide) (by decide) (by simp [ne_qp.symm])
  refine f_txt B rd (by simp [ne_qp]) (by simp [n_p, n_q]) (by simp) (by simp) (kept_pq N B.lo B.hi).2.1 (by simp [lk_p, (lok_Tq (N := N) (by omega)).1]) (fun ws hws => ?_) (by simp) fun _ h => ?_
  · rcases List.mem_cons.mp hws with rfl | hws
    · exact h1.1
    · rcases List.mem_append.mp hws with hws | hws
      · exact (h2 ws hws).1
      · simp only [List.mem_cons, List.not_mem_nil, or_false] at hws
        rcases hws with rfl | rfl
        · exact h4.1
        · exact h3.1
  · unfold mws at h
    rw [List.cons.injEq] at h
    have h := List.append_cancel_left h.2
    simp only [List.map_cons, List.map_nil, List.cons.injEq] at h
    have h : cp "true" :: cp "p" :: [dg 0, dg 1] = cp "true" :: cp "q" :: [dg (N - 1)] := h.1
    exact absurd (List.cons.inj (List.cons.inj h).2).1 (by decide)
/-- a space behind a name's line -/
theorem f_4p (B : Bas N s) : Fails (Am N s) (wdW N :: ((Am N s).pairs.map wdS ++ [Tp ++ [[]], Tq N])) [] := by
  have ep : Tp ++ [[]] = cp "true" :: cp "p" :: [dg 0, dg 1, []] := rfl
  have eq : Tq N = cp "true" :: cp "q" :: [dg (N - 1)] := rfl
  have e1 : [dg 0, dg 1, []].map numI = [0, 1, -1] := by decide
  have rd : rdL 0 (wdW N :: ((Am N s).pairs.map wdS ++ [Tp ++ [[]], Tq N])) ⟨0, [], []⟩ = some ⟨(N : Int), (Am N s).pairs.map castP, [(("p" : Str), [0, 1, -1]), ("q", [dg (N - 1)].map numI)]⟩ := by
    refine (rdL_base B).trans ?_
    rw [ep, eq, rdL_cons (st_T (x := cp "p") (r := [dg 0, dg 1, []]) (by omega) (by simp) n_p (by simp)), e1, mk_cp]
    exact (rdL_cons (st_T (x := cp "q") (r := [dg (N - 1)]) (by omega) (by simp) n_q (by rw [mk_cp]; simp [ne_qp]))).trans (by rw [mk_cp]; rfl)
  exact f_neg B rd (by simp [ne_qp.symm]) (by simp [n_p, n_q]) (by simp) ⟨("p", [0, 1, -1]), by simp, by simp⟩
theorem f_4q (B : Bas N s) : Fails (Am N s) (wdW N :: ((Am N s).pairs.map wdS ++ [Tp, Tq N ++ [[]]])) [] := by
  have eq : Tq N ++ [[]] = cp "true" :: cp "q" :: [dg (N - 1), []] := rfl
  have e1 : numI [] = -1 := by decide
  have rd : rdL 0 (wdW N :: ((Am N s).pairs.map wdS ++ [Tp, Tq N ++ [[]]])) ⟨0, [], []⟩ = some ⟨(N : Int), (Am N s).pairs.map castP, [castV ("p", [0, 1]), ("q", [numI (dg (N - 1)), -1])]⟩ := by
    refine (rdL_baseP B).trans ?_
    rw [eq]
    refine (rdL_cons (st_T (x := cp "q") (r := [dg (N - 1), []]) (by omega) (by simp) n_q ?_)).trans (by rw [mk_cp]; simp only [List.map_cons, List.map_nil, e1]; rfl)
    rw [mk_cp]
    show ("q" : Str) ∉ [("p" : Str)]
    simp [ne_qp]
  refine f_neg B rd ?_ (fun p hp => ?_) (by simp) ⟨("q", [numI (dg (N - 1)), -1]), by simp, by simp⟩
  · show [("p" : Str), "q"].Nodup
    simp [ne_qp.symm]
  · simp only [List.mem_cons, List.not_mem_nil, or_false] at hp
    rcases hp with rfl | rfl
    · exact ⟨by simp [castV], n_p⟩
    · exact ⟨by simp, n_q⟩
/-- a pair that is none -/
theorem f_5 (B : Bas N s) {P : List (Nat × Nat)} (e : (Am N s).pairs = (0, 0) :: P) {u v : List Nat} (h : numI u < 0 ∨ numI v < 0 ∨ (N : Int) ≤ numI v) : Fails (Am N s) (wdW N :: ([cp "sees", u, v] :: (P.map wdS ++ [Tp, Tq N]))) [] := by
  have h5 := B.hi
  have lt := B.lt10
  have fw := B.few
  rw [e] at lt fw
  have rd : rdL 0 (wdW N :: ([cp "sees", u, v] :: (P.map wdS ++ [Tp, Tq N]))) ⟨0, [], []⟩ = some ⟨(N : Int), (numI u, numI v) :: P.map castP, [castV ("p", [0, 1]), castV ("q", [N - 1])]⟩ := by
    rw [rdL_W (by omega), rdL_cons (st_S (r := [u, v]) (by decide) rfl), rdL_pairs P _ _ _ (by decide) fun p hp => lt p (by simp [hp])]
    exact rdL_TT (by omega) h5
  refine .inr ⟨_, rd, .inl ⟨by show (N : Int) < 64; omega, by simp only [List.length_cons, List.length_map] at fw ⊢; omega, fr_out (p := (numI u, numI v)) (by simp) ?_⟩⟩
  unfold inR
  rw [Bool.and_eq_false_iff]
  rcases h with h | h | h
  · exact .inl (decide_eq_false (by show ¬ (0 ≤ numI u ∧ numI u < (N : Int)); omega))
  · exact .inr (decide_eq_false (by show ¬ (0 ≤ numI v ∧ numI v < (N : Int)); omega))
  · exact .inr (decide_eq_false (by show ¬ (0 ≤ numI v ∧ numI v < (N : Int)); omega))
theorem f_6t (B : Bas N s) {l l' : List Nat} (h : sortKV (keptS [(("p" : Str), [0, 1]), ("q", l)]) = [(("p" : Str), [0, 1]), ("q", l')]) (hl : 0 < l.length) (hl2 : l.length < 64) (h10 : ∀ i ∈ l, i < 10) (lk : lokB (wdT ("q", l)) = true) (lk' : lokB (wdT ("q", l')) = true) (ne : wdT ("q", l') ≠ wdT ("q", l)) : Fails (Am N s) (wdW N :: ((Am N s).pairs.map wdS ++ [Tp, wdT ("q", l)])) [] := by
  obtain ⟨h1, h2, h3, h4⟩ := lok_base B
  have rd : rdL 0 (wdW N :: ((Am N s).pairs.map wdS ++ [Tp, wdT ("q", l)])) ⟨0, [], []⟩ = some ⟨(N : Int), (Am N s).pairs.map castP, [(("p" : Str), [0, 1]), ("q", l)].map castV⟩ :=
    (rdL_baseP B).trans (rdL_T (V := [(("p" : Str), [0, 1])]) (by omega) n_q hl h10 (by simp [ne_qp]))
  refine f_txt B rd (by simp [ne_qp.symm]) (by simp [n_p, n_q]) (by simp [hl2]) (by simp) h (by simp [lk_p, lk']) (fun ws hws => ?_) (by simp) fun _ e => ?_
  · rcases List.mem_cons.mp hws with rfl | hws
    · exact h1.1
    · rcases List.mem_append.mp hws with hws | hws
      · exact (h2 ws hws).1
      · simp only [List.mem_cons, List.not_mem_nil, or_false] at hws
        rcases hws with rfl | rfl
        · exact h3.1
        · exact (lok_of lk).1
  · unfold mws at e
    rw [List.cons.injEq] at e
    have e := List.append_cancel_left e.2
    simp only [List.map_cons, List.map_nil, List.cons.injEq] at e
    exact ne e.2.1
theorem f_7 (B : Bas N s) {u : List Nat} (h : numI u < 2) : Fails (Am N s) ([cp "worlds", u] :: ((Am N s).pairs.map wdS ++ [Tp, Tq N])) [] := by
  have h5 := B.hi
  have fw := B.few
  have rd : rdL 0 ([cp "worlds", u] :: ((Am N s).pairs.map wdS ++ [Tp, Tq N])) ⟨0, [], []⟩ = some ⟨numI u, (Am N s).pairs.map castP, [castV ("p", [0, 1]), castV ("q", [N - 1])]⟩ := by
    rw [rdL_cons (st_W (r := [u]) rfl), rdL_pairs _ _ _ _ (by decide) B.lt10]
    exact rdL_TT (by omega) h5
  refine .inr ⟨_, rd, .inl ⟨by show numI u < 64; omega, by rw [List.length_map]; omega, ?_⟩⟩
  refine fr_out (p := (1, 1)) (List.mem_map_of_mem (f := castP) B.m11) ?_
  unfold inR
  rw [Bool.and_eq_false_iff]
  exact .inl (decide_eq_false (by show ¬ ((0 : Int) ≤ 1 ∧ (1 : Int) < numI u); omega))
theorem f_8s (B : Bas N s) : Fails (Am N s) (L0 N s ++ [[cp "sees", dg 1, dg 1]]) [] := by
  have h5 := B.hi
  have fw := B.few
  have e : L0 N s ++ [[cp "sees", dg 1, dg 1]] = wdW N :: ((Am N s).pairs.map wdS ++ (Tp :: Tq N :: [[cp "sees", dg 1, dg 1]])) := by simp [L0]
  have n1 : numI (dg 1) = 1 := by decide
  have rd : rdL 0 (L0 N s ++ [[cp "sees", dg 1, dg 1]]) ⟨0, [], []⟩ = some ⟨(N : Int), (Am N s).pairs.map castP ++ [(1, 1)], [(("p" : Str), [0, 1]), ("q", [N - 1])].map castV⟩ := by
    rw [e]
    refine (rdL_baseQ B).trans ?_
    refine (rdL_cons (st_S (r := [dg 1, dg 1]) (by omega) rfl)).trans ?_
    simp only [List.map_cons, List.map_nil, List.getD_cons_zero, List.getD_cons_succ, n1]
    rfl
  refine .inr ⟨_, rd, .inl ⟨by show (N : Int) < 64; omega, by rw [List.length_append, List.length_map, List.length_singleton]; omega, fr_asc fun c => ?_⟩⟩
  have := asc_nodup c
  exact (List.nodup_append.mp this).2.2 (1, 1) (List.mem_map_of_mem (f := castP) B.m11) (1, 1) (by simp) rfl
theorem f_8a (B : Bas N s) : Fails (Am N s) (L0 N s ++ [wdT ("a", [0])]) [] := by
  obtain ⟨h1, h2, h3, h4⟩ := lok_base B
  have h5 := B.hi
  have e : L0 N s ++ [wdT ("a", [0])] = wdW N :: ((Am N s).pairs.map wdS ++ (Tp :: Tq N :: [wdT ("a", [0])])) := by simp [L0]
  have rd : rdL 0 (L0 N s ++ [wdT ("a", [0])]) ⟨0, [], []⟩ = some ⟨(N : Int), (Am N s).pairs.map castP, [(("p" : Str), [0, 1]), ("q", [N - 1]), ("a", [0])].map castV⟩ := by
    rw [e]
    refine (rdL_baseQ B).trans ?_
    exact rdL_T (V := [(("p" : Str), [0, 1]), ("q", [N - 1])]) (by omega) n_a (by decide) (by decide) (by simp [ne_ap, ne_aq])
  refine f_txt B rd (by simp [ne_qp.symm, ne_ap.symm, ne_aq.symm]) (by simp [n_p, n_q, n_a]) (by simp) (by simp) (kept_pq N B.lo B.hi).2.2 (by simp [lk_p, lk_a, (lok_Tq (N := N) (by omega)).1]) (fun ws hws => ?_) (by simp) fun _ h => ?_
  · rcases List.mem_append.mp hws with hws | hws
    · exact (lok_L0 B ws hws).1
    · rw [List.mem_singleton.mp hws]
      exact (lok_of lk_a).1
  · rw [e] at h
    unfold mws at h
    rw [List.cons.injEq] at h
    have h := List.append_cancel_left h.2
    simp only [List.map_cons, List.map_nil, List.cons.injEq] at h
    have h : cp "true" :: cp "a" :: [dg 0] = cp "true" :: cp "p" :: [dg 0, dg 1] := h.1
    exact absurd (List.cons.inj (List.cons.inj h).2).1 (by decide)
end
section
variable {n : Nat} {R : List D}
theorem strI_at {f : EF} {env : Fx.Env} {k : Nat} {w : List D} (h : k < 10) (hf : f env R w = .ok (.int (k : Nat)) w) : cCall (one gStrI) (cArgs [f]) env R w = .ok (.str (mkS (dg k))) w := by
  simp only [x_call, x_args, x_args0, hf, an_ok, x_one, see_int]
  exact str_dg h
abbrev tE3 (N : Nat) (l v : D) (T : List Nat) (e4 e5 e6 : Option D) : Fx.Env := [some (.int (N : Nat)), some l, some v, some (.str (mkS T)), e4, e5, e6]
def ltS : SF := sSet 3 (cBin gAdd (cBin gAdd (cBin gAdd (cBin gAdd (cBin gAdd (cVar 3) (cK (.str "sees "))) (cCall (one gStrI) (cArgs [cBin gIx (cVar 4) (cK (.int 0))]))) (cK (.str " "))) (cCall (one gStrI) (cArgs [cBin gIx (cVar 4) (cK (.int 1))]))) (cK (.str "\n")))
def ltT : SF := sIf (cTest (cBin gNe (cDGet (cVar 2) (cVar 5)) (cLst (cArgs [])))) (sSet 3 (cBin gAdd (cBin gAdd (cBin gAdd (cVar 3) (cK (.str "true "))) (cJoin (cK (.str " ")) (cBin gAdd (cLst (cArgs [cVar 5])) (cComp (.nm 6) [6] (cSeq (cCall (one gSortSet) (cArgs [cDGet (cVar 2) (cVar 5)]))) (cYes) (cCall (one gStrI) (cArgs [cVar 6])) kStill)))) (cK (.str "\n")))) (sNil)
theorem lt_pairs {N : Nat} {l0 v : D} : ∀ (l : List (Nat × Nat)) (T : List Nat) (e4 : Option D), (∀ p ∈ l, p.1 < 10 ∧ p.2 < 10) → T.length + 9 * l.length ≤ 900000 → ∃ e4', forL (.nm 4) ltS (l.map prD) (tE3 N l0 v T e4 none none) R [] = .go .nx (tE3 N l0 v (T ++ mtx (l.map wdS)) e4' none none) []
  | [], T, e4, _, _ => ⟨e4, by simp [mtx]⟩
  | p :: l, T, e4, h, hl => by
    simp only [List.length_cons] at hl
    have hp := h p (by simp)
    have sl := sees_len p
    obtain ⟨e4', ih⟩ := lt_pairs (N := N) (l0 := l0) (v := v) l (T ++ (lnC (wdS p) ++ [10])) (some (prD p)) (fun q hq => h q (by simp [hq])) (by rw [List.length_append, sl]; omega)
    refine ⟨e4', ?_⟩
    rw [List.map_cons, for_nm]
    have ee : (tE3 N l0 v T e4 none none).set 4 (some (prD p)) = tE3 N l0 v T (some (prD p)) none none := rfl
    have s0 := strI_at (R := R) (w := []) (f := cBin gIx (cVar 4) (cK (.int 0))) (env := tE3 N l0 v T (some (prD p)) none none) hp.1 rfl
    have s1 := strI_at (R := R) (w := []) (f := cBin gIx (cVar 4) (cK (.int 1))) (env := tE3 N l0 v T (some (prD p)) none none) hp.2 rfl
    have v3 : cVar 3 (tE3 N l0 v T (some (prD p)) none none) R [] = .ok (.str (mkS T)) [] := rfl
    have l5 : (cp "sees ").length = 5 := by decide
    have l1 : (cp " ").length = 1 := by decide
    have l2 : (cp "\n").length = 1 := by decide
    have ld : ∀ k, (dg k).length = 1 := fun _ => rfl
    have b : ltS (tE3 N l0 v T (some (prD p)) none none) R [] = .go .nx (tE3 N l0 v (T ++ (lnC (wdS p) ++ [10])) (some (prD p)) none none) [] := by
      unfold ltS
      rw [x_set, x_bin, x_bin, x_bin, x_bin, x_bin, v3, an_ok, k_mk, an_ok, see_str, see_str, catM (by omega), an_ok, s0, an_ok, see_str, see_str, catM (by rw [List.length_append, ld]; omega), an_ok, k_mk, an_ok, see_str, see_str, catM (by simp only [List.length_append, ld]; omega), an_ok, s1, an_ok, see_str, see_str, catM (by simp only [List.length_append, ld]; omega), an_ok, k_mk, an_ok, see_str, see_str, catM (by simp only [List.length_append, ld]; omega), st_ok, l_sees]
      simp only [List.append_assoc]
      rfl
    rw [ee, b, tn_nx, ih]
    congr 2
    have : mtx ((p :: l).map wdS) = (lnC (wdS p) ++ [10]) ++ mtx (l.map wdS) := rfl
    rw [this, List.append_assoc]
theorem lt_name {N : Nat} {l0 : D} {v : List (Str × List Nat)} {p : Str × List Nat} {T : List Nat} {e4 : Option D} (hd : dget (vks v) (vxs v) (.str p.1) = some (nsD p.2)) (hx : (cp p.1).length ≤ 12) (hl : p.2.length ≤ 60) (h10 : ∀ i ∈ p.2, i < 10) (hT : T.length ≤ 900000) :
    ltT (tE3 N l0 (vD v) T e4 (some (.str p.1)) none) R [] = .go .nx (tE3 N l0 (vD v) (T ++ mtx ((keptS [p]).map wdT)) e4 (some (.str p.1)) none) [] := by
  have sv : ∀ w, see R w (vD v) = vD v := fun _ => rfl
  have q : ∀ w, gDGet (vD v) (.str p.1) R w = .ok (nsD p.2) w := fun w => dget_eq (ro := R) (w := w) (ks := vks v) (xs := vxs v) (k := .str p.1) rfl hd
  have dg1 : cDGet (cVar 2) (cVar 5) (tE3 N l0 (vD v) T e4 (some (.str p.1)) none) R [] = .ok (nsD p.2) [] := by
    simp only [tE3, x_dget, x_var, List.getElem?_cons_zero, List.getElem?_cons_succ, ofO_ss, an_ok, sv, q]
  have sn : ∀ w, see R w (nsD p.2) = nsD p.2 := fun _ => rfl
  have nn : decide (nsD p.2 = .lst []) = p.2.isEmpty := by
    cases p.2 <;> simp [nsD]
  have t : cTest (cBin gNe (cDGet (cVar 2) (cVar 5)) (cLst (cArgs []))) (tE3 N l0 (vD v) T e4 (some (.str p.1)) none) R [] = .ok (!p.2.isEmpty) [] := by
    have e2 : (D.lst []).eqo = true := eqo_ints (ns := [])
    have ne : gNe (nsD p.2) (.lst []) R [] = .ok (.bl (!p.2.isEmpty)) [] := by
      rw [ne_eqo ns_eqo e2, nn]
    rw [x_test, x_bin, dg1, an_ok, x_lst, x_args0, an_ok, an_ok, sn, see_lst, ne, an_ok, bool_bl]
  unfold ltT
  rw [x_ifS, t, st_ok]
  cases em : p.2.isEmpty with
  | true =>
    rw [Bool.not_true, if_neg Bool.false_ne_true, x_nil]
    have : keptS [p] = [] := by
      unfold keptS
      simp [em]
    rw [this]
    show _ = OS.go .nx (tE3 N l0 (vD v) (T ++ mtx []) e4 (some (.str p.1)) none) []
    rw [show mtx [] = [] from rfl, List.append_nil]
  | false =>
    rw [Bool.not_false, if_pos rfl]
    have kp : keptS [p] = [(p.1, srt p.2)] := by
      unfold keptS
      simp [em]
    have it : cSeq (cCall (one gSortSet) (cArgs [cDGet (cVar 2) (cVar 5)])) (tE3 N l0 (vD v) T e4 (some (.str p.1)) none) R [] = .ok ((srt p.2).map nD) [] := by
      rw [x_seqI]
      simp only [x_call, x_args, x_args0, dg1, an_ok, x_one, sn]
      rw [sortSet_ns (by omega), an_ok]
      rfl
    have sl : (srt p.2).length ≤ 60 := by
      have a := Mo.asc_len (a := 0) (n := 10) (srt_asc p.2) fun w hw => ⟨Nat.zero_le _, h10 w (mem_srt.mp hw)⟩
      omega
    have cm := dg_comp (R := R) (w := []) (env := tE3 N l0 (vD v) T e4 (some (.str p.1)) none) (k := 6) (by show 6 < 7; decide) (by omega) (fun i hi => h10 i (mem_srt.mp hi)) it
    have jw := join_words (R := R) (w := []) hx (l := srt p.2) (by omega)
    have a1 : cBin gAdd (cLst (cArgs [cVar 5])) (cComp (.nm 6) [6] (cSeq (cCall (one gSortSet) (cArgs [cDGet (cVar 2) (cVar 5)]))) (cYes) (cCall (one gStrI) (cArgs [cVar 6])) kStill) (tE3 N l0 (vD v) T e4 (some (.str p.1)) none) R [] = .ok (.lst ((p.1 :: (srt p.2).map fun i => mkS (dg i)).map .str)) [] := by
      have hs : sizeLine = 16777216 := rfl
      have l5 : cLst (cArgs [cVar 5]) (tE3 N l0 (vD v) T e4 (some (.str p.1)) none) R [] = .ok (.lst [.str p.1]) [] := rfl
      rw [x_bin, l5, an_ok, cm, an_ok, see_lst, see_lst, add_lst, if_pos (by simp only [List.length_map, List.length_cons, List.length_nil]; omega)]
      rfl
    have a2 : cJoin (cK (.str " ")) (cBin gAdd (cLst (cArgs [cVar 5])) (cComp (.nm 6) [6] (cSeq (cCall (one gSortSet) (cArgs [cDGet (cVar 2) (cVar 5)]))) (cYes) (cCall (one gStrI) (cArgs [cVar 6])) kStill)) (tE3 N l0 (vD v) T e4 (some (.str p.1)) none) R [] = .ok (.str (mkS (TL.joinL [32] (cp p.1 :: (srt p.2).map dg)))) [] := by
      rw [x_join (x := " ") rfl, a1, an_ok, see_lst, jw]
    have jl : (TL.joinL [32] (cp p.1 :: (srt p.2).map dg)).length ≤ 1400 := by
      have := lnC_len (cp p.1 :: (srt p.2).map dg) (m := 12) (fun x h => by
        rcases List.mem_cons.mp h with rfl | h
        · exact hx
        · obtain ⟨i, _, rfl⟩ := List.mem_map.mp h
          show 1 ≤ 12
          omega)
      unfold lnC at this
      rw [List.length_cons, List.length_map] at this
      omega
    have t5 : (cp "true ").length = 5 := by decide
    have n1 : (cp "\n").length = 1 := by decide
    have v1 : cVar 3 (tE3 N l0 (vD v) T e4 (some (.str p.1)) none) R [] = .ok (.str (mkS T)) [] := rfl
    rw [x_set, x_bin, x_bin, x_bin, v1, an_ok, k_mk, an_ok, see_str, see_str, catM (by omega), an_ok, a2, an_ok, see_str, see_str, catM (by rw [List.length_append]; omega), an_ok, k_mk, an_ok, see_str, see_str, catM (by simp only [List.length_append]; omega), st_ok, kp]
    have lt := l_true (p.1, srt p.2)
    have e : mtx ([(p.1, srt p.2)].map wdT) = lnC (wdT (p.1, srt p.2)) ++ [10] := mtx_one _
    rw [e, lt]
    simp only [List.append_assoc]
    rfl
theorem lt_names {N : Nat} {l0 : D} {v : List (Str × List Nat)} {e4 : Option D} : ∀ (kv : List (Str × List Nat)) (T : List Nat) (e5 : Option D), (∀ p ∈ kv, dget (vks v) (vxs v) (.str p.1) = some (nsD p.2) ∧ (cp p.1).length ≤ 12 ∧ p.2.length ≤ 60 ∧ ∀ i ∈ p.2, i < 10) → T.length + 2000 * kv.length ≤ 900000 →
    ∃ e5', forL (.nm 5) ltT (kv.map fun p => .str p.1) (tE3 N l0 (vD v) T e4 e5 none) R [] = .go .nx (tE3 N l0 (vD v) (T ++ mtx ((keptS kv).map wdT)) e4 e5' none) []
  | [], T, e5, _, _ => ⟨e5, by simp [mtx, keptS]⟩
  | p :: kv, T, e5, h, hl => by
    simp only [List.length_cons] at hl
    obtain ⟨h1, h2, h3, h4⟩ := h p (by simp)
    have ll : (mtx ((keptS [p]).map wdT)).length ≤ 2000 := by
      by_cases em : p.2.isEmpty = true
      · have : keptS [p] = [] := by
          unfold keptS
          simp [em]
        rw [this]
        decide
      · have kp : keptS [p] = [(p.1, srt p.2)] := by
          unfold keptS
          simp [em]
        have sl : (srt p.2).length ≤ 60 := by
          have a := Mo.asc_len (a := 0) (n := 10) (srt_asc p.2) fun w hw => ⟨Nat.zero_le _, h4 w (mem_srt.mp hw)⟩
          omega
        have := lnC_len (wdT (p.1, srt p.2)) (m := 12) (fun x h => by
          rcases List.mem_cons.mp h with rfl | h
          · decide
          · rcases List.mem_cons.mp h with rfl | h
            · exact h2
            · obtain ⟨i, _, rfl⟩ := List.mem_map.mp h
              show 1 ≤ 12
              omega)
        have e : mtx ([(p.1, srt p.2)].map wdT) = lnC (wdT (p.1, srt p.2)) ++ [10] := mtx_one _
        have l1 : ([10] : List Nat).length = 1 := rfl
        have e3 : (wdT (p.1, srt p.2)).length = (srt p.2).length + 2 := by simp [wdT]
        rw [kp, e, List.length_append, l1]
        rw [e3] at this
        omega
    obtain ⟨e5', ih⟩ := lt_names (N := N) (l0 := l0) (v := v) (e4 := e4) kv (T ++ mtx ((keptS [p]).map wdT)) (some (.str p.1)) (fun q hq => h q (by simp [hq])) (by rw [List.length_append]; omega)
    refine ⟨e5', ?_⟩
    rw [List.map_cons, for_nm]
    have ee : (tE3 N l0 (vD v) T e4 e5 none).set 5 (some (.str p.1)) = tE3 N l0 (vD v) T e4 (some (.str p.1)) none := rfl
    rw [ee, lt_name h1 h2 h3 h4 (by omega), tn_nx, ih]
    have : keptS (p :: kv) = keptS [p] ++ keptS kv := by
      unfold keptS
      rw [show p :: kv = [p] ++ kv from rfl, List.filter_append, List.map_append]
    rw [this, List.map_append, mtx_app, List.append_assoc]
theorem e_ltext {N : Nat} {l : List (Nat × Nat)} {v : List (Str × List Nat)} {ro w : List D} (hn : 0 < n) (hN : N < 10) (hl : l.length ≤ 64) (hp : ∀ p ∈ l, p.1 < 10 ∧ p.2 < 10) (nd : (v.map (·.1)).Nodup) (hv : KvOk N v) :
    ev n .f_law_model_text [.int (N : Nat), .lst (l.map prD), vD v] ro w = .ok (.str (mkS (mtx (mws N l (keptS (sortKV v)))))) w := by
  obtain ⟨m, rfl⟩ : ∃ m, n = m + 1 := ⟨n - 1, by omega⟩
  generalize hR : ro ++ w = R
  have few := hv.fw
  have t7 : (cp "worlds ").length = 7 := by decide
  have n1 : (cp "\n").length = 1 := by decide
  have run : runDef 3 7 (b_law_model_text (ev m)) [.int (N : Nat), .lst (l.map prD), vD v] R [] = .ok (.str (mkS (mtx (mws N l (keptS (sortKV v)))))) [] := by
    rw [x_def]
    simp only [List.length_cons, List.length_nil, Nat.zero_add, Nat.reduceAdd, if_true, List.map_cons, List.map_nil, Nat.reduceSub, List.replicate, List.cons_append, List.nil_append, List.append_nil]
    unfold b_law_model_text
    have s0 := strI_at (R := R) (w := []) (f := cVar 0) (env := [some (.int (N : Nat)), some (.lst (l.map prD)), some (vD v), none, none, none, none]) hN rfl
    have e0 : cBin gAdd (cBin gAdd (cK (.str "worlds ")) (cCall (one gStrI) (cArgs [cVar 0]))) (cK (.str "\n")) [some (.int (N : Nat)), some (.lst (l.map prD)), some (vD v), none, none, none, none] R [] = .ok (.str (mkS (mtx [wdW N]))) [] := by
      have ld : ∀ k, (dg k).length = 1 := fun _ => rfl
      rw [x_bin, x_bin, k_mk, an_ok, s0, an_ok, see_str, see_str, catM (by rw [ld]; omega), an_ok, k_mk, an_ok, see_str, see_str, catM (by rw [List.length_append, ld]; omega), mtx_one, l_worlds, List.append_assoc]
    rw [x_seq, x_set, e0, st_ok, oan_nx]
    simp only [List.set_cons_succ, List.set_cons_zero]
    have lw : (mtx [wdW N]).length ≤ 100 := by
      rw [mtx_one, l_worlds]
      simp only [List.length_append, t7, n1, dg, List.length_cons, List.length_nil]
      decide
    obtain ⟨e4', wp⟩ := lt_pairs (R := R) (N := N) (l0 := .lst (l.map prD)) (v := vD v) l (mtx [wdW N]) none hp (by omega)
    have it : cSeq (cVar 1) [some (.int (N : Nat)), some (.lst (l.map prD)), some (vD v), some (.str (mkS (mtx [wdW N]))), none, none, none] R [] = .ok (l.map prD) [] := rfl
    have wp' := wp
    unfold ltS at wp'
    simp only [tE3] at wp'
    rw [x_seq, x_for, it, st_ok, wp', oan_nx]
    have so : ∀ (T : D) (e4 : Option D), cSeq (cCall (one gSortTD) (cArgs [cVar 2])) [some (.int (N : Nat)), some (.lst (l.map prD)), some (vD v), some T, e4, none, none] R [] = .ok ((sortKV v).map fun p => .str p.1) [] := fun T e4 => by
      have q : gSortTD (vD v) R [] = .ok (.lst ((srtT (v.map (·.1))).map .str)) [] := by
        have e : vD v = .dic ((v.map (·.1)).map .str) (vxs v) := by
          rw [vD_eq]
          unfold vks
          rw [List.map_map]
          rfl
        rw [e]
        exact sortTD_ok (by rw [List.length_map]; omega)
      have sv : see R [] (vD v) = vD v := rfl
      rw [x_seqI]
      simp only [x_call, x_args, x_args0, x_one, x_var, List.getElem?_cons_zero, List.getElem?_cons_succ, ofO_ss, an_ok, sv, q]
      rw [← sortKV_names, List.map_map]
      rfl
    have pm := sortKV_perm nd
    have lpairs : (mtx [wdW N] ++ mtx (l.map wdS)).length ≤ 100 + 9 * 64 := by
      have key : ∀ l : List (Nat × Nat), (mtx (l.map wdS)).length = 9 * l.length := fun l => by
        induction l with
        | nil => rfl
        | cons p l ih =>
          have e : mtx ((p :: l).map wdS) = (lnC (wdS p) ++ [10]) ++ mtx (l.map wdS) := rfl
          rw [e, List.length_append, sees_len, ih, List.length_cons]
          omega
      rw [List.length_append, key]
      omega
    obtain ⟨e5', wn⟩ := lt_names (R := R) (N := N) (l0 := .lst (l.map prD)) (v := v) (e4 := e4') (sortKV v) (mtx [wdW N] ++ mtx (l.map wdS)) none (fun p hp => by
      have hm := pm.mem_iff.mp hp
      have := hv.nm p hm
      have h2 := hv.rg p hm
      exact ⟨dget_v nd hm, this.1, by omega, fun i hi => by have := h2.1 i hi; omega⟩) (by
      rw [pm.length_eq]
      omega)
    have wn' := wn
    unfold ltT at wn'
    simp only [tE3] at wn'
    rw [x_seq, x_for, so, st_ok, wn', oan_nx, x_ret]
    have fin : mtx [wdW N] ++ mtx (l.map wdS) ++ mtx ((keptS (sortKV v)).map wdT) = mtx (mws N l (keptS (sortKV v))) := by
      rw [← mtx_app, ← mtx_app]
      rfl
    rw [fin]
    rfl
  rw [show ev (m + 1) .f_law_model_text = pureD (runDef 3 7 (b_law_model_text (ev m))) from rfl]
  unfold pureD
  rw [hR]
  simp only [run]
  rfl
/-! the law's pairs -/
def prS : SF := sIf (cTru (cBin gIx (cBin gIx (cVar 0) (cVar 2)) (cVar 3))) (sExpr (cMl gAppend (cVar 1) (cArgs [cTup (cArgs [cVar 2, cVar 3])]))) (sNil)
theorem pr_in {A : Mo} {i : Nat} (hi : i < A.n) : ∀ (js : List Nat) (acc : List (Nat × Nat)) (e3 : Option D), (∀ j ∈ js, j < A.n) → acc.length + js.length ≤ 5000 → ∃ e3', forL (.nm 3) prS (js.map nD) [some (seenD A), some (.ref (R.length + 0)), some (nD i), e3] R [.lst (acc.map prD)] = .go .nx [some (seenD A), some (.ref (R.length + 0)), some (nD i), e3'] [.lst ((acc ++ (js.filter (A.s i)).map fun j => (i, j)).map prD)]
  | [], acc, e3, _, _ => ⟨e3, by simp⟩
  | j :: js, acc, e3, h, hl => by
    simp only [List.length_cons] at hl
    have hs : sizeLine = 16777216 := rfl
    have hj := h j (by simp)
    have t : cTru (cBin gIx (cBin gIx (cVar 0) (cVar 2)) (cVar 3)) [some (seenD A), some (.ref (R.length + 0)), some (nD i), some (nD j)] R [.lst (acc.map prD)] = .ok (A.s i j) [.lst (acc.map prD)] := by
      have ss : ∀ w, see R w (seenD A) = seenD A := fun _ => rfl
      simp only [x_tru, x_bin, x_var, List.getElem?_cons_zero, List.getElem?_cons_succ, ofO_ss, an_ok, ss, see_int, seen_i hi, see_lst, seen_j hj, see_bl, truth_bl]
    by_cases c : A.s i j = true
    · obtain ⟨e3', ih⟩ := pr_in hi js (acc ++ [(i, j)]) (some (nD j)) (fun k hk => h k (by simp [hk])) (by rw [List.length_append, List.length_singleton]; omega)
      refine ⟨e3', ?_⟩
      have ap := append_at (ro := R) (w := [.lst (acc.map prD)]) (n := 0) (d := prD (i, j)) (ds := acc.map prD) rfl (by rw [List.length_map]; omega)
      have s1 : see R [.lst (acc.map prD)] (.ref (R.length + 0)) = .lst (acc.map prD) := see_at rfl
      have b : prS [some (seenD A), some (.ref (R.length + 0)), some (nD i), some (nD j)] R [.lst (acc.map prD)] = .go .nx [some (seenD A), some (.ref (R.length + 0)), some (nD i), some (nD j)] [.lst ((acc ++ [(i, j)]).map prD)] := by
        unfold prS
        have tu : cTup (cArgs [cVar 2, cVar 3]) [some (seenD A), some (.ref (R.length + 0)), some (nD i), some (nD j)] R [.lst (acc.map prD)] = .ok (prD (i, j)) [.lst (acc.map prD)] := rfl
        have c1 : cVar 1 [some (seenD A), some (.ref (R.length + 0)), some (nD i), some (nD j)] R [.lst (acc.map prD)] = .ok (.ref (R.length + 0)) [.lst (acc.map prD)] := rfl
        rw [x_ifS, t, c, st_ok, if_pos rfl, x_expr, x_ml, c1, an_ok, s1, mlV_lst, x_args, tu, an_ok, x_args0, an_ok, an_ok, ap, st_ok, List.map_append]
        rfl
      rw [List.map_cons, for_nm]
      simp only [List.set_cons_succ, List.set_cons_zero]
      rw [b, tn_nx, ih]
      simp [c]
    · obtain ⟨e3', ih⟩ := pr_in hi js acc (some (nD j)) (fun k hk => h k (by simp [hk])) (by omega)
      refine ⟨e3', ?_⟩
      have c' : A.s i j = false := by simpa using c
      have b : prS [some (seenD A), some (.ref (R.length + 0)), some (nD i), some (nD j)] R [.lst (acc.map prD)] = .go .nx [some (seenD A), some (.ref (R.length + 0)), some (nD i), some (nD j)] [.lst (acc.map prD)] := by
        unfold prS
        rw [x_ifS, t, c', st_ok, if_neg Bool.false_ne_true, x_nil]
      rw [List.map_cons, for_nm]
      simp only [List.set_cons_succ, List.set_cons_zero]
      rw [b, tn_nx, ih]
      simp [c']
theorem seen_rng {A : Mo} (hA : A.n < 25) {env : Fx.Env} {w : List D} (h0 : env[0]? = some (some (seenD A))) : cRng1 (cArgs [cCall (one gLen) (cArgs [cVar 0])]) env R w = .ok ((List.range A.n).map nD) w := by
  have ss : ∀ w, see R w (seenD A) = seenD A := fun _ => rfl
  have ln : ∀ w, gLen (seenD A) R w = .ok (.int (A.n : Nat)) w := fun w => by
    show gLen (.lst _) R w = _
    rw [len_lst, List.length_map, List.length_range]
  rw [x_rng1]
  simp only [x_call, x_args, x_args0, x_one, x_var, h0, ofO_ss, an_ok, ss, ln]
  rw [rng1_nat (by omega), rngD_nat]
theorem pr_out {A : Mo} (hA : A.n < 25) : ∀ (is : List Nat) (acc : List (Nat × Nat)) (e2 e3 : Option D), (∀ i ∈ is, i < A.n) → acc.length + 25 * is.length ≤ 4000 → ∃ e2' e3', forL (.nm 2) (sFor (.nm 3) (cRng1 (cArgs [cCall (one gLen) (cArgs [cVar 0])])) prS) (is.map nD) [some (seenD A), some (.ref (R.length + 0)), e2, e3] R [.lst (acc.map prD)] = .go .nx [some (seenD A), some (.ref (R.length + 0)), e2', e3'] [.lst ((acc ++ is.flatMap fun i => (A.row i).map fun j => (i, j)).map prD)]
  | [], acc, e2, e3, _, _ => ⟨e2, e3, by simp⟩
  | i :: is, acc, e2, e3, h, hl => by
    simp only [List.length_cons] at hl
    obtain ⟨e3', q⟩ := pr_in (R := R) (h i (by simp)) (List.range A.n) acc e3 (fun j hj => List.mem_range.mp hj) (by rw [List.length_range]; omega)
    have rl : (A.row i).length ≤ 24 := by
      have := List.length_filter_le (A.s i) (List.range A.n)
      rw [List.length_range] at this
      unfold Mo.row
      omega
    obtain ⟨e2', e3'', ih⟩ := pr_out hA is (acc ++ (A.row i).map fun j => (i, j)) (some (nD i)) e3' (fun k hk => h k (by simp [hk])) (by rw [List.length_append, List.length_map]; omega)
    refine ⟨e2', e3'', ?_⟩
    rw [List.map_cons, for_nm]
    simp only [List.set_cons_succ, List.set_cons_zero]
    rw [x_for, seen_rng hA rfl, st_ok, q, tn_nx]
    have e : (List.range A.n).filter (A.s i) = A.row i := rfl
    rw [e, ih]
    simp
theorem e_pairs {A : Mo} (hA : A.n < 25) {ro w : List D} (hn : 0 < n) : ev n .f_law_pairs [seenD A] ro w = .ok (.lst (A.pairs.map prD)) w := by
  obtain ⟨m, rfl⟩ : ∃ m, n = m + 1 := ⟨n - 1, by omega⟩
  generalize hR : ro ++ w = R
  obtain ⟨e2', e3', q⟩ := pr_out (R := R) hA (List.range A.n) [] none none (fun i hi => List.mem_range.mp hi) (by rw [List.length_range]; simp; omega)
  have run : runDef 1 4 (b_law_pairs (ev m)) [seenD A] R [] = .ok (.ref (R.length + 0)) [.lst (A.pairs.map prD)] := by
    rw [x_def]
    simp only [List.length_cons, List.length_nil, Nat.zero_add, Nat.reduceAdd, if_true, List.map_cons, List.map_nil, Nat.reduceSub, List.replicate, List.cons_append, List.nil_append, List.append_nil]
    unfold b_law_pairs
    rw [x_seq, x_set, x_lstM, x_args0]
    simp only [an_ok, st_ok, oan_nx, List.set_cons_succ, List.set_cons_zero, List.length_nil, List.nil_append]
    unfold prS at q
    have q' : _ = OS.go .nx [some (seenD A), some (.ref (R.length + 0)), e2', e3'] [.lst (A.pairs.map prD)] := q
    rw [x_seq, x_for, seen_rng hA rfl, st_ok]
    refine (congrArg (fun o : OS => (OS.an o _).fin = _) q').mpr ?_
    rfl
  rw [show ev (m + 1) .f_law_pairs = pureD (runDef 1 4 (b_law_pairs (ev m))) from rfl]
  unfold pureD
  rw [hR]
  simp only [run]
  have u0 : D.under 0 (.lst (A.pairs.map prD)) = true := unders_iff.mpr fun d hd => by
    obtain ⟨x, _, rfl⟩ := List.mem_map.mp hd
    rfl
  have t : D.tell (told R.length [.lst (A.pairs.map prD)] 4) (.ref (R.length + 0)) = some (.lst (A.pairs.map prD)) := by
    unfold D.tell
    exact (told_at (b := R.length) (k := 3) (m := 0) (w := [.lst (A.pairs.map prD)]) rfl).trans (tell_self _ u0)
  rw [t]
end
/-! ### the law walked -/
theorem e_cell {n i : Nat} {ns : List Int} {ro w : List D} : ∃ v : Int, ev (n + 1) .f_law_cell [.lst (ns.map .int), .int i] ro w = .ok (.int v) w := by
  rw [q_law_cell]
  by_cases c : i < ns.length
  · exact ⟨ns[i], by simp [x_def, b_law_cell, c]⟩
  · exact ⟨0, by simp [x_def, b_law_cell, c]⟩
abbrev lnsD (L : List (List (List Nat))) : D := .lst (L.map fun ws => .str (mkS (lnC ws)))
abbrev lw (S seen pr T : D) (dgt c N way spot : Nat) (e10 e11 e12 : Option D) : Fx.Env := [some S, some (.int (dgt : Nat)), some (.int (c : Nat)), some (.int (N : Nat)), some seen, some pr, some T, some (.ref 0), some (.int (way : Nat)), some (.int (spot : Nat)), e10, e11, e12, none, none]
theorem mtx_join2 : ∀ L : List (List (List Nat)), L ≠ [] → mtx L = TL.joinL [10] (L.map lnC) ++ [10]
  | [], h => absurd rfl h
  | [ws], _ => by simp [mtx, TL.joinL]
  | ws :: v :: L, _ => by
    have e : mtx (ws :: v :: L) = (lnC ws ++ [10]) ++ mtx (v :: L) := rfl
    rw [e, mtx_join2 (v :: L) (by simp)]
    show _ = (lnC ws ++ ([10] ++ TL.joinL [10] (lnC v :: L.map lnC))) ++ [10]
    simp [List.append_assoc]
theorem cp_joinN (ys : List Str) : cp (Txt.join "\n" ys) = TL.joinL [10] (ys.map cp) := by
  rw [TL.join_eq]
  have := TL.tl_join "\n" ys
  have e : TL.tl "\n" = [10] := by decide
  rw [e] at this
  exact this
section
variable {N : Nat} {s : Nat → Nat → Bool} {S seen pr T : D} {dgt c way spot : Nat} {e10 e11 e12 : Option D}
theorem lns_join {L : List (List (List Nat))} (all : ∀ ws ∈ L, LOk ws) (hll : L.length ≤ 90) {R w : List D} : gJoin "\n" (lnsD L) R w = .ok (.str (mkS (TL.joinL [10] (L.map lnC)))) w := by
  have sm : ∀ L : List (List (List Nat)), (∀ ws ∈ L, LOk ws) → ((L.map fun ws => mkS (lnC ws)).map (·.length)).sum ≤ 10100 * L.length := fun L => by
    induction L with
    | nil => simp
    | cons ws L ih =>
      intro h
      have h0 := h ws (by simp)
      have l1 := lnC_len ws (m := 100) fun x hx => (h0.2.1 x hx).2
      have l2 : (100 + 1) * ws.length ≤ (100 + 1) * 100 := Nat.mul_le_mul (Nat.le_refl _) h0.2.2.1
      have := ih fun v hv => h v (by simp [hv])
      simp only [List.map_cons, List.sum_cons, List.length_cons, mk_len]
      omega
  have e : lnsD L = .lst ((L.map fun ws => mkS (lnC ws)).map .str) := by
    show D.lst _ = D.lst _
    rw [List.map_map]
    rfl
  have e1 : ("\n" : Str).length = 1 := by decide
  have := sm L all
  rw [e, join_lst (by rw [List.length_map, e1]; omega)]
  congr 2
  apply cp_inj
  rw [cp_joinN, List.map_map]
  rfl
def finS : SF := (sRet (cCall (fun ds => if ds.length = 1 then ev 59 .f_law_refused ds else M.no) (cArgs [cBin gAdd (cJoin (cK (.str "\n")) (cVar 7)) (cK (.str "\n"))])))
theorem fin_way (B : Bas N s) {L : List (List (List Nat))} (ne : L ≠ []) (all : ∀ ws ∈ L, LOk ws) (hll : L.length ≤ 90) (F : Fails (Am N s) L []) : finS (lw S seen pr T dgt c N way spot e10 e11 e12) [] [lnsD L] = .go (.rt (.bl true)) (lw S seen pr T dgt c N way spot e10 e11 e12) [lnsD L] := by
  have h5 := B.hi
  have j := lns_join (R := []) (w := [lnsD L]) all hll
  have n0 : (10 : Nat) ∉ ([] : List Nat) := by simp
  have rf := refused (m := 59) (by decide) B.good (show N < 10 by omega) (prs_lt (A := Am N s)) all hll n0 (by simp) (fun c h => by cases h) F (ro := []) (w := [lnsD L])
  rw [List.append_nil] at rf
  have tl := txt_len (t := []) all hll (by simp)
  rw [List.append_nil, mk_len, mtx_join2 L ne, List.length_append, List.length_singleton] at tl
  have cc := catM (ro := []) (w := [lnsD L]) (a := TL.joinL [10] (L.map lnC)) (b := cp "\n") (by
    have e1 : (cp "\n").length = 1 := by decide
    omega)
  have e2 : cp "\n" = [10] := by decide
  rw [e2, ← mtx_join2 L ne] at cc
  have sl : see [] [lnsD L] (.ref 0) = lnsD L := rfl
  have a1 : cBin gAdd (cJoin (cK (.str "\n")) (cVar 7)) (cK (.str "\n")) (lw S seen pr T dgt c N way spot e10 e11 e12) [] [lnsD L] = .ok (.str (mkS (mtx L))) [lnsD L] := by
    have v7 : cVar 7 (lw S seen pr T dgt c N way spot e10 e11 e12) [] [lnsD L] = .ok (.ref 0) [lnsD L] := rfl
    rw [x_bin, x_join (x := "\n") rfl, v7, an_ok, sl, j, an_ok, k_mk, e2, an_ok, see_str, see_str, cc]
  unfold finS
  rw [x_ret, x_call, x_args, a1, an_ok, x_args0, an_ok, an_ok]
  simp only [List.length_cons, List.length_nil, Nat.zero_add, if_true, rf, st_ok]
theorem way_t {i : Int} {w : List D} : cTest (cBin gEq (cVar 8) (cK (.int i))) (lw S seen pr T dgt c N way spot e10 e11 e12) [] w = .ok (decide ((way : Int) = i)) w := by
  simp only [lw, x_test, x_bin, x_k, x_var, List.getElem?_cons_zero, List.getElem?_cons_succ, ofO_ss, an_ok, see_int, eq_int, bool_bl]
theorem skip {i : Int} (h : (way : Int) ≠ i) {b t : SF} {w : List D} : sSeq (sIf (cTest (cBin gEq (cVar 8) (cK (.int i)))) b sNil) t (lw S seen pr T dgt c N way spot e10 e11 e12) [] w = t (lw S seen pr T dgt c N way spot e10 e11 e12) [] w := by
  rw [x_seq, x_ifS, way_t, st_ok, decide_eq_false h, if_neg Bool.false_ne_true, x_nil, oan_nx]
theorem hit {i : Int} (h : (way : Int) = i) {b t : SF} {w : List D} {env' : Fx.Env} {w' : List D} (hb : b (lw S seen pr T dgt c N way spot e10 e11 e12) [] w = .go .nx env' w') : sSeq (sIf (cTest (cBin gEq (cVar 8) (cK (.int i)))) b sNil) t (lw S seen pr T dgt c N way spot e10 e11 e12) [] w = t env' [] w' := by
  rw [x_seq, x_ifS, way_t, st_ok, decide_eq_true h, if_pos rfl, hb, oan_nx]
theorem hitr {i : Int} (h : (way : Int) = i) {b t : SF} {w : List D} {d : D} {env' : Fx.Env} {w' : List D} (hb : b (lw S seen pr T dgt c N way spot e10 e11 e12) [] w = .go (.rt d) env' w') : sSeq (sIf (cTest (cBin gEq (cVar 8) (cK (.int i)))) b sNil) t (lw S seen pr T dgt c N way spot e10 e11 e12) [] w = .go (.rt d) env' w' := by
  rw [x_seq, x_ifS, way_t, st_ok, decide_eq_true h, if_pos rfl, hb, oan_rt]
/-- where a line stands -/
inductive At (N : Nat) (s : Nat → Nat → Bool) : List (List (List Nat)) → List (List Nat) → List (List (List Nat)) → Prop
  | w : At N s [] (wdW N) ((Am N s).pairs.map wdS ++ [Tp, Tq N])
  | p {P1 P2 : List (Nat × Nat)} {x : Nat × Nat} : (Am N s).pairs = P1 ++ x :: P2 → At N s (wdW N :: P1.map wdS) (wdS x) (P2.map wdS ++ [Tp, Tq N])
  | a : At N s (wdW N :: (Am N s).pairs.map wdS) Tp [Tq N]
  | b : At N s (wdW N :: ((Am N s).pairs.map wdS ++ [Tp])) (Tq N) []
theorem at_eq {X Y : List (List (List Nat))} {y : List (List Nat)} (h : At N s X y Y) : L0 N s = X ++ y :: Y := by
  cases h with
  | w => rfl
  | p e => simp [L0, e]
  | a => simp [L0]
  | b => simp [L0]
theorem at_of {i : Nat} (h : i < (L0 N s).length) : ∃ X y Y, At N s X y Y ∧ X.length = i := by
  have ln : (L0 N s).length = (Am N s).pairs.length + 3 := by simp [L0]
  rw [ln] at h
  by_cases c0 : i = 0
  · exact ⟨_, _, _, .w, c0.symm⟩
  · by_cases c1 : i < (Am N s).pairs.length + 1
    · obtain ⟨j, rfl⟩ : ∃ j, i = j + 1 := ⟨i - 1, by omega⟩
      have hj : j < (Am N s).pairs.length := by omega
      have e : (Am N s).pairs = (Am N s).pairs.take j ++ (Am N s).pairs[j] :: (Am N s).pairs.drop (j + 1) := by
        rw [List.getElem_cons_drop, List.take_append_drop]
      exact ⟨_, _, _, .p e, by simp; omega⟩
    · by_cases c2 : i = (Am N s).pairs.length + 1
      · exact ⟨_, _, _, .a, by simp [c2]⟩
      · exact ⟨_, _, _, .b, by simp; omega⟩
theorem f_way2 (B : Bas N s) {X Y : List (List (List Nat))} {y : List (List Nat)} (h : At N s X y Y) : Fails (Am N s) (X ++ y :: y :: Y) [] := by
  have h5 := B.hi
  cases h with
  | w =>
    refine .inl ((rdL_W (by omega)).trans (rdL_none ?_))
    exact st_Wno (.inl (by decide))
  | p e =>
    have := f_dup B e (t := [])
    simpa using this
  | a => 
    have := f_line2 B (ws := Tp) (X := [Tq N]) (t := []) fun a wo ps ha => st_Tno (.inr (.inr (.inr (by rw [mk_cp]; simp [castV]))))
    simpa using this
  | b =>
    have := f_line3 B (ws := Tq N) (t := []) fun a wo ps ha => st_Tno (.inr (.inr (.inr (by rw [mk_cp]; simp [castV]))))
    simpa [L0] using this
theorem f_way4 (B : Bas N s) {X Y : List (List (List Nat))} {y : List (List Nat)} (h : At N s X y Y) {z : List (List Nat)} (hz : z = y ++ [[]] ∨ z = [] :: y ∨ z = y.headD [] :: [] :: y.tail) : Fails (Am N s) (X ++ z :: Y) [] ∧ LOk z := by
  have h5 := B.hi
  have ne : mkS [] ≠ "worlds" ∧ mkS [] ≠ "sees" ∧ mkS [] ≠ "true" := by decide
  cases h with
  | w =>
    obtain ⟨_, l1, l2, l3⟩ := lok_W (k := N) (by omega)
    rcases hz with rfl | rfl | rfl
    · exact ⟨f_first fun st => st_Wno (r := [dg N, []]) (.inr (by simp)), lok_of l1⟩
    · exact ⟨f_first fun st => st_E ne, lok_of l2⟩
    · exact ⟨f_first fun st => st_Wno (r := [[], dg N]) (.inr (by simp)), lok_of l3⟩
  | @p P1 P2 x e =>
    have lt := B.lt10
    rw [e] at lt
    have lx := lt x (by simp)
    have l0 : ∀ p ∈ P1, p.1 < 10 ∧ p.2 < 10 := fun p hp => lt p (by simp [hp])
    obtain ⟨_, l1, l2, l3⟩ := lok_S (i := x.1) (j := x.2) lx.1 lx.2
    rcases hz with rfl | rfl | rfl
    · exact ⟨f_line B l0 fun a st ha => st_Sno (r := [dg x.1, dg x.2, []]) (.inr (by simp)), lok_of l1⟩
    · exact ⟨f_line B l0 fun a st ha => st_E ne, lok_of l2⟩
    · exact ⟨f_line B l0 fun a st ha => st_Sno (r := [[], dg x.1, dg x.2]) (.inr (by simp)), lok_of l3⟩
  | a =>
    obtain ⟨_, l1, l2, l3⟩ := lok_Tp
    rcases hz with rfl | rfl | rfl
    · exact ⟨f_4p B, lok_of l1⟩
    · exact ⟨f_line B B.lt10 fun a st ha => st_E ne, lok_of l2⟩
    · exact ⟨f_line B B.lt10 fun a st ha => st_Tno (x := []) (r := [cp "p", dg 0, dg 1]) (.inr (.inr (.inl rfl))), lok_of l3⟩
  | b =>
    obtain ⟨_, l1, l2, l3⟩ := lok_Tq (N := N) (by omega)
    rcases hz with rfl | rfl | rfl
    · refine ⟨?_, lok_of l1⟩
      have := f_4q B
      simpa using this
    · refine ⟨?_, lok_of l2⟩
      have := f_line2 B (ws := [] :: Tq N) (X := []) (t := []) fun a wo ps ha => st_E ne
      simpa using this
    · refine ⟨?_, lok_of l3⟩
      have := f_line2 B (ws := [cp "true", [], cp "q", dg (N - 1)]) (X := []) (t := []) fun a wo ps ha => st_Tno (x := []) (r := [cp "q", dg (N - 1)]) (.inr (.inr (.inl rfl)))
      show Fails _ ((wdW N :: ((Am N s).pairs.map wdS ++ [Tp])) ++ [[cp "true", [], cp "q", dg (N - 1)]]) _
      simpa using this
/-- two lines exchanged -/
theorem f_way3 (B : Bas N s) {X Y : List (List (List Nat))} {y v : List (List Nat)} (h : At N s X y (v :: Y)) : Fails (Am N s) (X ++ v :: y :: Y) [] := by
  have h5 := B.hi
  generalize hZ : v :: Y = Z at h
  cases h with
  | w =>
    obtain ⟨P, e⟩ := B.fst
    rw [e, List.map_cons, List.cons_append, List.cons.injEq] at hZ
    rw [hZ.1]
    exact f_first fun st => st_Sno (.inl rfl)
  | @p P1 P2 x e =>
    cases P2 with
    | nil =>
      simp only [List.map_nil, List.nil_append, List.cons.injEq] at hZ
      rw [hZ.1, hZ.2]
      have := f_3a B e
      simpa using this
    | cons x2 P2 =>
      rw [List.map_cons, List.cons_append, List.cons.injEq] at hZ
      rw [hZ.1, hZ.2]
      have := f_swap B e (t := [])
      simpa using this
  | a =>
    simp only [List.cons.injEq] at hZ
    rw [hZ.1, hZ.2]
    have := f_3b B
    simpa using this
  | b => cases hZ
end
section
variable {N : Nat} {s : Nat → Nat → Bool} {S seen pr T : D} {dgt c way spot : Nat} {e10 e11 e12 : Option D}
theorem st_T1 {a : Nat} {st : RS} : rdStep a [cp "true"] st = none :=
  st_none (fun c => lit_ne.2.2.2.2.1 ((w0_T []).symm.trans c.1)) (fun c => lit_ne.2.2.2.2.2 ((w0_T []).symm.trans c.1)) (fun c => by
    have h : (nms [cp "true"]).length = 0 := by
      unfold nms knw
      rw [w0_T, if_pos rfl]
      rfl
    have := c.2.2.1
    omega)
theorem ne_e : mkS [] ≠ "worlds" ∧ mkS [] ≠ "sees" ∧ mkS [] ≠ "true" := by decide
abbrev Z5 (N : Nat) : List (List (List Nat)) := [[cp "sees", cp "0"], [cp "sees", cp "0", cp "0", cp "0"], [cp "see", cp "0", cp "0"], [cp "sees", cp "00", cp "0"], [cp "sees", cp "0", cp "-1"], [cp "sees", dg 0, dg N], [cp "sees", cp "0", cp "1234567"], [cp "sees", cp "a", cp "0"], [[]]]
abbrev Z6 : List (List (List Nat)) := [[cp "true", cp "q"], [cp "true", cp "Q", cp "0"], [cp "true", cp "1q", cp "0"], wdT ("q", [1, 0]), wdT ("q", [0, 0]), [cp "true", cp "abcdefghijklm", cp "0"], [cp "true"], [cp "true", [], cp "0"], [cp "true", cp "p", cp "0"]]
abbrev Z7 : List (List (List Nat)) := [[cp "worlds", cp "0"], [cp "worlds"], [cp "worlds", cp "2", cp "2"], [cp "worlds", cp "02"], [cp "world", cp "2"], [cp "worlds", cp "1"], [cp "worlds", cp "-2"], [cp "worlds", cp "two"]]
abbrev Z8 : List (List (List Nat)) := [[[]], [cp "sees", dg 1, dg 1], [cp "true", cp "p", cp "1"], [cp "worlds", cp "2"], wdT ("a", [0]), [cp "#", cp "end"]]
theorem f_way5 (B : Bas N s) {P : List (Nat × Nat)} (e : (Am N s).pairs = (0, 0) :: P) : ∀ z ∈ Z5 N, Fails (Am N s) (wdW N :: (z :: (P.map wdS ++ [Tp, Tq N]))) [] ∧ LOk z := fun z hz => by
  have h5 := B.hi
  have nil10 : ∀ p ∈ ([] : List (Nat × Nat)), p.1 < 10 ∧ p.2 < 10 := fun p hp => by cases hp
  simp only [List.mem_cons, List.not_mem_nil, or_false] at hz
  rcases hz with rfl | rfl | rfl | rfl | rfl | rfl | rfl | rfl | rfl
  · exact ⟨f_line B nil10 fun a st ha => st_Sno (r := [cp "0"]) (.inr (by simp)), lok_of (by decide +kernel)⟩
  · exact ⟨f_line B nil10 fun a st ha => st_Sno (r := [cp "0", cp "0", cp "0"]) (.inr (by simp)), lok_of (by decide +kernel)⟩
  · exact ⟨f_line B nil10 fun a st ha => st_E (by decide), lok_of (by decide +kernel)⟩
  · exact ⟨f_5 B e (.inl (by decide)), lok_of (by decide +kernel)⟩
  · exact ⟨f_5 B e (.inr (.inl (by decide))), lok_of (by decide +kernel)⟩
  · exact ⟨f_5 B e (.inr (.inr (by rw [numI_dg (by omega)]; omega))), lok_of (lok_S (i := 0) (j := N) (by decide) (by omega)).1⟩
  · exact ⟨f_5 B e (.inr (.inl (by decide))), lok_of (by decide +kernel)⟩
  · exact ⟨f_5 B e (.inl (by decide)), lok_of (by decide +kernel)⟩
  · exact ⟨f_line B nil10 fun a st ha => st_E ne_e, lok_of (by decide +kernel)⟩
theorem f_way6 (B : Bas N s) : ∀ z ∈ Z6, Fails (Am N s) (wdW N :: ((Am N s).pairs.map wdS ++ [Tp, z])) [] ∧ LOk z := fun z hz => by
  simp only [List.mem_cons, List.not_mem_nil, or_false] at hz
  rcases hz with rfl | rfl | rfl | rfl | rfl | rfl | rfl | rfl | rfl
  · exact ⟨f_line2 B fun a wo ps ha => st_Tno (r := []) (.inr (.inl rfl)), lok_of (by decide +kernel)⟩
  · exact ⟨f_line2 B fun a wo ps ha => st_Tno (.inr (.inr (.inl (by decide)))), lok_of (by decide +kernel)⟩
  · exact ⟨f_line2 B fun a wo ps ha => st_Tno (.inr (.inr (.inl (by decide)))), lok_of (by decide +kernel)⟩
  · exact ⟨f_6t B kept_10 (by decide) (by decide) (by decide) (by decide +kernel) (by decide +kernel) (by decide), lok_of (by decide +kernel)⟩
  · exact ⟨f_6t B kept_00 (by decide) (by decide) (by decide) (by decide +kernel) (by decide +kernel) (by decide), lok_of (by decide +kernel)⟩
  · exact ⟨f_line2 B fun a wo ps ha => st_Tno (.inr (.inr (.inl (by decide)))), lok_of (by decide +kernel)⟩
  · exact ⟨f_line2 B fun a wo ps ha => st_T1, lok_of (by decide +kernel)⟩
  · exact ⟨f_line2 B fun a wo ps ha => st_Tno (.inr (.inr (.inl (by decide)))), lok_of (by decide +kernel)⟩
  · exact ⟨f_line2 B fun a wo ps ha => st_Tno (.inr (.inr (.inr (by rw [mk_cp]; simp [castV])))), lok_of (by decide +kernel)⟩
theorem f_way7 (B : Bas N s) : ∀ z ∈ Z7, Fails (Am N s) (z :: ((Am N s).pairs.map wdS ++ [Tp, Tq N])) [] ∧ LOk z := fun z hz => by
  simp only [List.mem_cons, List.not_mem_nil, or_false] at hz
  rcases hz with rfl | rfl | rfl | rfl | rfl | rfl | rfl | rfl
  · exact ⟨f_7 B (by decide), lok_of (by decide +kernel)⟩
  · exact ⟨f_first fun st => st_Wno (r := []) (.inr (by simp)), lok_of (by decide +kernel)⟩
  · exact ⟨f_first fun st => st_Wno (r := [cp "2", cp "2"]) (.inr (by simp)), lok_of (by decide +kernel)⟩
  · exact ⟨f_7 B (by decide), lok_of (by decide +kernel)⟩
  · exact ⟨f_first fun st => st_E (by decide), lok_of (by decide +kernel)⟩
  · exact ⟨f_7 B (by decide), lok_of (by decide +kernel)⟩
  · exact ⟨f_7 B (by decide), lok_of (by decide +kernel)⟩
  · exact ⟨f_7 B (by decide), lok_of (by decide +kernel)⟩
theorem f_way8 (B : Bas N s) : ∀ z ∈ Z8, Fails (Am N s) (L0 N s ++ [z]) [] ∧ LOk z := fun z hz => by
  simp only [List.mem_cons, List.not_mem_nil, or_false] at hz
  rcases hz with rfl | rfl | rfl | rfl | rfl | rfl
  · exact ⟨f_line3 B fun a wo ps ha => st_E ne_e, lok_of (by decide +kernel)⟩
  · exact ⟨f_8s B, lok_of (by decide +kernel)⟩
  · exact ⟨f_line3 B fun a wo ps ha => st_Tno (.inr (.inr (.inr (by rw [mk_cp]; simp [castV])))), lok_of (by decide +kernel)⟩
  · exact ⟨f_line3 B fun a wo ps ha => st_Wno (.inl ha), lok_of (by decide +kernel)⟩
  · exact ⟨f_8a B, lok_of (by decide +kernel)⟩
  · exact ⟨f_line3 B fun a wo ps ha => st_E (by decide), lok_of (by decide +kernel)⟩
/-! the statements -/
theorem ix_ln {X Y : List (List (List Nat))} {y : List (List Nat)} {R w : List D} {i : Nat} (hi : X.length = i) : gIx (lnsD (X ++ y :: Y)) (.int (i : Nat)) R w = .ok (.str (mkS (lnC y))) w := by
  show gIx (.lst ((X ++ y :: Y).map fun ws => D.str (mkS (lnC ws)))) _ R w = _
  rw [ix_lst, Fx.atI_nat, List.getElem?_map, List.getElem?_append_right (by omega), hi, Nat.sub_self]
  rfl
theorem put_ln {X Y : List (List (List Nat))} {y z : List (List Nat)} {i : Nat} (hi : X.length = i) : gPut (.str (mkS (lnC z))) (.ref 0) (.int (i : Nat)) [] [lnsD (X ++ y :: Y)] = .ok .non [lnsD (X ++ z :: Y)] := by
  have hj : L2.ixN ((X ++ y :: Y).map fun ws => D.str (mkS (lnC ws))).length (i : Int) = some i := by
    rw [ixN_nat, if_pos (by simp only [List.length_map, List.length_append, List.length_cons]; omega)]
  rw [put_own (n := 0) (w := [lnsD (X ++ y :: Y)]) rfl hj]
  show Out.ok D.non [D.lst _] = _
  have e : ((X ++ y :: Y).map fun ws => D.str (mkS (lnC ws))).set i (.str (mkS (lnC z))) = (X ++ z :: Y).map fun ws => D.str (mkS (lnC ws)) := by
    rw [List.map_append, List.set_append, List.length_map, hi, if_neg (Nat.lt_irrefl _), Nat.sub_self]
    simp
  rw [e]
theorem mem_getD {α : Type} {l : List α} {k : Nat} {d : α} (h : k < l.length) : l.getD k d ∈ l := by
  rw [List.getD_eq_getElem?_getD, List.getElem?_eq_getElem h]
  exact List.getElem_mem h
theorem pick {fs : List EF} {Z : List (List (List Nat))} {m : Nat} (i : Int) {env : Fx.Env} {w : List D} (hz : Z.length = m) (hm : 0 < m) (h : cArgs fs env [] w = .ok (Z.map fun ws => .str (mkS (lnC ws))) w) (h2 : env[2]? = some (some (.int (c : Nat)))) (md : ∀ w, gMod (.int (c : Nat)) (.int i) [] w = .ok (.int ((c % m : Nat) : Int)) w) :
    cBin gIx (cLst (cArgs fs)) (cBin gMod (cCall (one gInt) (cArgs [cVar 2])) (cK (.int i))) env [] w = .ok (.str (mkS (lnC (Z.getD (c % m) [[]])))) w ∧ Z.getD (c % m) [[]] ∈ Z := by
  have hlt : c % m < Z.length := by rw [hz]; exact Nat.mod_lt _ hm
  refine ⟨?_, mem_getD hlt⟩
  have ix : ∀ w, gIx (.lst (Z.map fun ws => D.str (mkS (lnC ws)))) (.int ((c % m : Nat) : Int)) [] w = .ok (.str (mkS (lnC (Z.getD (c % m) [[]])))) w := fun w => by
    rw [ix_lst, Fx.atI_nat, List.getElem?_map, List.getElem?_eq_getElem hlt, List.getD_eq_getElem?_getD, List.getElem?_eq_getElem hlt]
    rfl
  have sz : ∀ w, see [] w (.lst (Z.map fun ws => D.str (mkS (lnC ws)))) = .lst (Z.map fun ws => D.str (mkS (lnC ws))) := fun _ => rfl
  simp only [x_bin, x_lst, h, an_ok, x_call, x_args, x_args0, x_one, x_var, h2, ofO_ss, see_int, int_int, x_k, md, sz, ix]
theorem see0 {L : List (List (List Nat))} : see [] [lnsD L] (.ref 0) = lnsD L := rfl
abbrev E0 (S seen pr T : D) (dgt c N way spot : Nat) : Fx.Env := lw S seen pr T dgt c N way spot none none none
theorem s_way2 {X Y : List (List (List Nat))} {y : List (List Nat)} (hi : X.length = spot) (hl : (X ++ y :: Y).length ≤ 90) : (sExpr (cMl gInsert (cVar 7) (cArgs [cVar 9, cBin gIx (cVar 7) (cVar 9)]))) (E0 S seen pr T dgt c N way spot) [] [lnsD (X ++ y :: Y)] = .go .nx (E0 S seen pr T dgt c N way spot) [lnsD (X ++ y :: y :: Y)] := by
  have hs : sizeLine = 16777216 := rfl
  have v7 : ∀ w, cVar 7 (E0 S seen pr T dgt c N way spot) [] w = .ok (.ref 0) w := fun _ => rfl
  have v9 : ∀ w, cVar 9 (E0 S seen pr T dgt c N way spot) [] w = .ok (.int (spot : Nat)) w := fun _ => rfl
  have mlv : ∀ (k : List D → Out D) w, mlV (lnsD (X ++ y :: Y)) k w = k w := fun _ _ => rfl
  have ln : ((X ++ y :: Y).map fun ws => D.str (mkS (lnC ws))).length ≤ 90 := by rw [List.length_map]; exact hl
  have sp : spot ≤ 90 := by rw [List.length_append] at hl; omega
  have ins : gInsert [.int (spot : Nat), .str (mkS (lnC y))] (.ref 0) [] [lnsD (X ++ y :: Y)] = .ok .non [lnsD (X ++ y :: y :: Y)] := by
    unfold gInsert
    have := mod_at (ro := []) (w := [lnsD (X ++ y :: Y)]) (n := 0) (ds := (X ++ y :: Y).map fun ws => D.str (mkS (lnC ws))) (f := fun es => if 0 ≤ (spot : Int) ∧ (spot : Int).natAbs < 2 ^ 62 ∧ es.length < sizeLine then some (.non, es.take (spot : Int).toNat ++ [.str (mkS (lnC y))] ++ es.drop (spot : Int).toNat) else none) (d := .non) (ds' := (X ++ y :: y :: Y).map fun ws => D.str (mkS (lnC ws))) (Nat.le_refl _) rfl (by
      have p62 : (2 : Nat) ^ 62 = 4611686018427387904 := by decide
      rw [if_pos ⟨by omega, by rw [Int.natAbs_natCast, p62]; omega, by omega⟩]
      congr 2
      rw [Int.toNat_natCast, List.map_append, List.take_left' (by rw [List.length_map]; exact hi), List.drop_left' (by rw [List.length_map]; exact hi)]
      simp)
    exact this
  rw [x_expr, x_ml, v7, an_ok, see0, mlv, x_args, v9, an_ok, x_args, x_bin, v7, an_ok, v9, an_ok, see0, see_int, ix_ln hi, an_ok, x_args0, an_ok, an_ok, an_ok, ins, st_ok]
theorem mod_ok {a m : Nat} (hm : 0 < m ∧ m < 1000) {w : List D} : gMod (.int (a : Nat)) (.int (m : Nat)) [] w = .ok (.int ((a % m : Nat) : Int)) w := by
  rw [mod_int, if_pos (by omega)]
  congr 2
theorem len_ln {L : List (List (List Nat))} {w : List D} : gLen (lnsD L) [] w = .ok (.int (L.length : Nat)) w := by
  show gLen (.lst _) [] w = _
  rw [len_lst, List.length_map]
def s3 : SF := (sSeq (sSet 10 (cBin gMod (cCall (one gInt) (cArgs [cBin gAdd (cVar 9) (cK (.int 1))])) (cCall (one gLen) (cArgs [cVar 7]))))
  (sSeq (sSet 11 (cBin gIx (cVar 7) (cVar 9)))
  (sSeq (sPut (cVar 7) (cVar 9) (cBin gIx (cVar 7) (cVar 10)))
  (sPut (cVar 7) (cVar 10) (cVar 11)))))
theorem s_way3 {L : List (List (List Nat))} (hL : 0 < L.length ∧ L.length < 1000) {y v : List (List Nat)} {L1 L2 : List (List (List Nat))} {o : Nat} (ho : (spot + 1) % L.length = o) (i1 : ∀ w, gIx (lnsD L) (.int (spot : Nat)) [] w = .ok (.str (mkS (lnC y))) w) (i2 : ∀ w, gIx (lnsD L) (.int (o : Nat)) [] w = .ok (.str (mkS (lnC v))) w)
    (p1 : gPut (.str (mkS (lnC v))) (.ref 0) (.int (spot : Nat)) [] [lnsD L] = .ok .non [lnsD L1]) (p2 : gPut (.str (mkS (lnC y))) (.ref 0) (.int (o : Nat)) [] [lnsD L1] = .ok .non [lnsD L2]) :
    ∃ e10 e11, s3 (E0 S seen pr T dgt c N way spot) [] [lnsD L] = .go .nx (lw S seen pr T dgt c N way spot e10 e11 none) [lnsD L2] := by
  refine ⟨some (.int (o : Nat)), some (.str (mkS (lnC y))), ?_⟩
  have ad : ∀ w, gAdd (.int (spot : Nat)) (.int 1) [] w = .ok (.int ((spot + 1 : Nat) : Int)) w := fun w => by
    rw [add_int]
    congr 2
  have md : ∀ w, gMod (.int ((spot + 1 : Nat) : Int)) (.int (L.length : Nat)) [] w = .ok (.int (o : Nat)) w := fun w => by
    rw [mod_ok hL, ho]
  have sl : see [] [lnsD L] (.ref 0) = lnsD L := rfl
  unfold s3
  simp only [x_seq, x_set, x_put, x_bin, x_call, x_args, x_args0, x_one, x_k, x_var, lw, List.getElem?_cons_zero, List.getElem?_cons_succ, ofO_ss, an_ok, see_int, ad, int_int, sl, len_ln, md, st_ok, oan_nx, List.set_cons_succ, List.set_cons_zero, i1, i2, p1, p2]
theorem s_put {i : Nat} {fi fv : EF} {X Y : List (List (List Nat))} {y z : List (List Nat)} {env : Fx.Env} (h7 : env[7]? = some (some (.ref 0))) (hi : X.length = i) (h1 : fv env [] [lnsD (X ++ y :: Y)] = .ok (.str (mkS (lnC z))) [lnsD (X ++ y :: Y)]) (h2 : fi env [] [lnsD (X ++ y :: Y)] = .ok (.int (i : Nat)) [lnsD (X ++ y :: Y)]) : (sPut (cVar 7) fi fv) env [] [lnsD (X ++ y :: Y)] = .go .nx env [lnsD (X ++ z :: Y)] := by
  have v7 : cVar 7 env [] [lnsD (X ++ y :: Y)] = .ok (.ref 0) [lnsD (X ++ y :: Y)] := by rw [x_var, h7]; rfl
  rw [x_put, h1, st_ok, v7, st_ok, h2, st_ok, put_ln hi, st_ok]
end
theorem in01 {R w : List D} {i j : Nat} (hi : i < 5) (hj : j < 5) : gInT false (.tup [.int (i : Nat), .int (j : Nat)]) (.tup [.tup [.int 0, .int 0], .tup [.int 1, .int 1]]) R w = .ok (.bl (decide (i = 0 ∧ j = 0 ∨ i = 1 ∧ j = 1))) w := by
  have key : ∀ i < 5, ∀ j < 5, (D.tup [.int ((i : Nat) : Int), .int ((j : Nat) : Int)]).cmp = true ∧ ([D.tup [.int 0, .int 0], D.tup [.int 1, .int 1]].any fun z => PyData.eqv z.py (D.tup [.int ((i : Nat) : Int), .int ((j : Nat) : Int)]).py) = decide (i = 0 ∧ j = 0 ∨ i = 1 ∧ j = 1) := by decide +kernel
  obtain ⟨k1, k2⟩ := key i hi j hj
  rw [inT_eq k1 (by decide +kernel)]
  simp only [Bool.false_eq_true, if_false, k2]
theorem sl_to {X : Str} (hX : X.length ≤ 16777216) {b : Nat} (hb : b ≤ X.length) {ro w : List D} : gSl (.str X) none (some (b : Int)) ro w = .ok (.str (mkS ((cp X).take b))) w := by
  have hs : sizeLine = 16777216 := rfl
  show (if X.length ≤ sizeLine then Out.ok (D.str (cutS X none (some (b : Int)))) w else .no) = _
  rw [hs, if_pos hX]
  congr 2
  unfold cutS
  rw [HT.sIx_nat, Nat.min_eq_left hb]
  rfl
section
variable {N : Nat} {s : Nat → Nat → Bool}
theorem L0_len (B : Bas N s) : (L0 N s).length = (Am N s).pairs.length + 3 ∧ (L0 N s).length ≤ 28 := by
  have e : (L0 N s).length = (Am N s).pairs.length + 3 := by simp [L0]
  have := B.few
  omega
theorem two_of (B : Bas N s) {X Y : List (List (List Nat))} {y : List (List Nat)} (h : At N s X y Y) {z : List (List Nat)} (hz : LOk z) : (∀ ws ∈ X ++ z :: Y, LOk ws) ∧ (∀ ws ∈ X ++ y :: y :: Y, LOk ws) ∧ (X ++ z :: Y).length ≤ 28 ∧ (X ++ y :: y :: Y).length ≤ 29 := by
  have l0 := lok_L0 B
  have ll := (L0_len B).2
  rw [at_eq h] at l0 ll
  refine ⟨fun ws hws => ?_, fun ws hws => ?_, by simp at ll ⊢; omega, by simp at ll ⊢; omega⟩
  · simp only [List.mem_append, List.mem_cons] at hws
    rcases hws with h | h | h
    · exact l0 ws (by simp [h])
    · rw [h]; exact hz
    · exact l0 ws (by simp [h])
  · simp only [List.mem_append, List.mem_cons] at hws
    rcases hws with h | h | h | h
    · exact l0 ws (by simp [h])
    · exact l0 ws (by simp [h])
    · exact l0 ws (by simp [h])
    · exact l0 ws (by simp [h])
theorem repl_kinds : (∀ k < 10, (Builtin.Str.tooLong ((mkS (lnC (wdW k))).length + (Builtin.Str.occurrences (mkS (lnC (wdW k))) " " 0 (mkS (lnC (wdW k))).length 1).length * ("  " : Str).length) = false) ∧ repl1 (mkS (lnC (wdW k))) " " "  " = mkS (lnC ((wdW k).headD [] :: [] :: (wdW k).tail))) := by decide +kernel
theorem repl_S : (∀ i < 10, ∀ j < 10, (Builtin.Str.tooLong ((mkS (lnC (wdS (i, j)))).length + (Builtin.Str.occurrences (mkS (lnC (wdS (i, j)))) " " 0 (mkS (lnC (wdS (i, j)))).length 1).length * ("  " : Str).length) = false) ∧ repl1 (mkS (lnC (wdS (i, j)))) " " "  " = mkS (lnC ((wdS (i, j)).headD [] :: [] :: (wdS (i, j)).tail))) := by decide +kernel
theorem repl_Tp : (Builtin.Str.tooLong ((mkS (lnC Tp)).length + (Builtin.Str.occurrences (mkS (lnC Tp)) " " 0 (mkS (lnC Tp)).length 1).length * ("  " : Str).length) = false) ∧ repl1 (mkS (lnC Tp)) " " "  " = mkS (lnC (Tp.headD [] :: [] :: Tp.tail)) := by decide +kernel
theorem repl_Tq : ∀ N < 10, (Builtin.Str.tooLong ((mkS (lnC (Tq N))).length + (Builtin.Str.occurrences (mkS (lnC (Tq N))) " " 0 (mkS (lnC (Tq N))).length 1).length * ("  " : Str).length) = false) ∧ repl1 (mkS (lnC (Tq N))) " " "  " = mkS (lnC ((Tq N).headD [] :: [] :: (Tq N).tail)) := by decide +kernel
theorem repl_at (B : Bas N s) {X Y : List (List (List Nat))} {y : List (List Nat)} (h : At N s X y Y) : (Builtin.Str.tooLong ((mkS (lnC y)).length + (Builtin.Str.occurrences (mkS (lnC y)) " " 0 (mkS (lnC y)).length 1).length * ("  " : Str).length) = false) ∧ repl1 (mkS (lnC y)) " " "  " = mkS (lnC (y.headD [] :: [] :: y.tail)) := by
  have h5 := B.hi
  cases h with
  | w => exact repl_kinds N (by omega)
  | @p P1 P2 x e =>
    have lt := B.lt10
    rw [e] at lt
    have lx := lt x (by simp)
    exact repl_S x.1 lx.1 x.2 lx.2
  | a => exact repl_Tp
  | b => exact repl_Tq N (by omega)
theorem ln_behind {y : List (List Nat)} (h : y ≠ []) : lnC y ++ [32] = lnC (y ++ [[]]) := by
  cases y with
  | nil => exact absurd rfl h
  | cons x r =>
    unfold lnC
    rw [List.cons_append, join_ln, join_ln, List.map_append, List.flatten_append]
    simp
theorem ln_ahead {y : List (List Nat)} (h : y ≠ []) : [32] ++ lnC y = lnC ([] :: y) := by
  cases y with
  | nil => exact absurd rfl h
  | cons x r =>
    unfold lnC
    rw [join_ln, join_ln]
    simp
theorem at_ne {X Y : List (List (List Nat))} {y : List (List Nat)} (h : At N s X y Y) : y ≠ [] := by
  cases h <;> simp [wdW, wdS, Tp, Tq, wdT]
end
section
variable {N : Nat} {s : Nat → Nat → Bool} {S seen pr T : D} {dgt c way spot : Nat}
def s4 : EF := (cBin gIx (cLst (cArgs [cBin gAdd (cBin gIx (cVar 7) (cVar 9)) (cK (.str " ")), cBin gAdd (cK (.str " ")) (cBin gIx (cVar 7) (cVar 9)), cRepl1 (cBin gIx (cVar 7) (cVar 9)) " " "  "])) (cBin gMod (cCall (one gInt) (cArgs [cVar 2])) (cK (.int 3))))
theorem s_way4 (B : Bas N s) {X Y : List (List (List Nat))} {y : List (List Nat)} (h : At N s X y Y) (hi : X.length = spot) : ∃ z, (z = y ++ [[]] ∨ z = [] :: y ∨ z = y.headD [] :: [] :: y.tail) ∧ s4 (E0 S seen pr T dgt c N way spot) [] [lnsD (X ++ y :: Y)] = .ok (.str (mkS (lnC z))) [lnsD (X ++ y :: Y)] := by
  have hy : LOk y := lok_L0 B y (by rw [at_eq h]; simp)
  have l1 := lnC_len y (m := 100) fun x hx => (hy.2.1 x hx).2
  have l2 : (100 + 1) * y.length ≤ (100 + 1) * 100 := Nat.mul_le_mul (Nat.le_refl _) hy.2.2.1
  have e32 : cp " " = [32] := by decide
  have v7 : ∀ w, cVar 7 (E0 S seen pr T dgt c N way spot) [] w = .ok (.ref 0) w := fun _ => rfl
  have v9 : ∀ w, cVar 9 (E0 S seen pr T dgt c N way spot) [] w = .ok (.int (spot : Nat)) w := fun _ => rfl
  have ix : cBin gIx (cVar 7) (cVar 9) (E0 S seen pr T dgt c N way spot) [] [lnsD (X ++ y :: Y)] = .ok (.str (mkS (lnC y))) [lnsD (X ++ y :: Y)] := by
    rw [x_bin, v7, an_ok, v9, an_ok, see0, see_int, ix_ln hi]
  have a1 : cBin gAdd (cBin gIx (cVar 7) (cVar 9)) (cK (.str " ")) (E0 S seen pr T dgt c N way spot) [] [lnsD (X ++ y :: Y)] = .ok (.str (mkS (lnC (y ++ [[]])))) [lnsD (X ++ y :: Y)] := by
    rw [x_bin, ix, an_ok, k_mk, an_ok, see_str, see_str, e32, catM (by rw [List.length_singleton]; omega), ln_behind (at_ne h)]
  have a2 : cBin gAdd (cK (.str " ")) (cBin gIx (cVar 7) (cVar 9)) (E0 S seen pr T dgt c N way spot) [] [lnsD (X ++ y :: Y)] = .ok (.str (mkS (lnC ([] :: y)))) [lnsD (X ++ y :: Y)] := by
    rw [x_bin, k_mk, an_ok, ix, an_ok, see_str, see_str, e32, catM (by rw [List.length_singleton]; omega), ln_ahead (at_ne h)]
  have lz := (f_way4 B h (z := y.headD [] :: [] :: y.tail) (.inr (.inr rfl))).2
  have l3 := lnC_len (y.headD [] :: [] :: y.tail) (m := 100) fun x hx => (lz.2.1 x hx).2
  have l4 : (100 + 1) * (y.headD [] :: [] :: y.tail).length ≤ (100 + 1) * 100 := Nat.mul_le_mul (Nat.le_refl _) lz.2.2.1
  obtain ⟨r1, r2⟩ := repl_at B h
  have a3 : cRepl1 (cBin gIx (cVar 7) (cVar 9)) " " "  " (E0 S seen pr T dgt c N way spot) [] [lnsD (X ++ y :: Y)] = .ok (.str (mkS (lnC (y.headD [] :: [] :: y.tail)))) [lnsD (X ++ y :: Y)] := by
    rw [x_repl1 ix r1 (by rw [r2, mk_len]; omega), r2]
  have := pick 3 (c := c) (Z := [y ++ [[]], [] :: y, y.headD [] :: [] :: y.tail]) (m := 3) (env := E0 S seen pr T dgt c N way spot) (w := [lnsD (X ++ y :: Y)]) (fs := [cBin gAdd (cBin gIx (cVar 7) (cVar 9)) (cK (.str " ")), cBin gAdd (cK (.str " ")) (cBin gIx (cVar 7) (cVar 9)), cRepl1 (cBin gIx (cVar 7) (cVar 9)) " " "  "]) rfl (by decide) (by
    rw [x_args, a1, an_ok, x_args, a2, an_ok, x_args, a3, an_ok, x_args0, an_ok, an_ok, an_ok]
    rfl) rfl (fun w => mod_ok (m := 3) (by decide))
  refine ⟨_, ?_, this.1⟩
  have m := this.2
  simp only [List.mem_cons, List.not_mem_nil, or_false] at m
  exact m
theorem lit5 : (("sees 0" : Str) = mkS (lnC [cp "sees", cp "0"]) ∧ ("sees 0 0 0" : Str) = mkS (lnC [cp "sees", cp "0", cp "0", cp "0"]) ∧ ("see 0 0" : Str) = mkS (lnC [cp "see", cp "0", cp "0"]) ∧ ("sees 00 0" : Str) = mkS (lnC [cp "sees", cp "00", cp "0"]) ∧ ("sees 0 -1" : Str) = mkS (lnC [cp "sees", cp "0", cp "-1"]) ∧ ("sees 0 1234567" : Str) = mkS (lnC [cp "sees", cp "0", cp "1234567"]) ∧ ("sees a 0" : Str) = mkS (lnC [cp "sees", cp "a", cp "0"]) ∧ ("" : Str) = mkS (lnC [[]])) := by decide +kernel
theorem lit6 : (["true q", "true Q 0", "true 1q 0", "true q 1 0", "true q 0 0", "true abcdefghijklm 0", "true", "true  0", "true p 0"] : List Str) = Z6.map fun ws => mkS (lnC ws) := by decide +kernel
theorem lit7 : (["worlds 0", "worlds", "worlds 2 2", "worlds 02", "world 2", "worlds 1", "worlds -2", "worlds two"] : List Str) = Z7.map fun ws => mkS (lnC ws) := by decide +kernel
theorem lit8 : (["", "sees 1 1", "true p 1", "worlds 2", "true a 0", "# end"] : List Str) = Z8.map fun ws => mkS (lnC ws) := by decide +kernel
theorem args_lit {xs : List Str} {env : Fx.Env} {R w : List D} : cArgs (xs.map fun x => cK (.str x)) env R w = .ok (xs.map .str) w := by
  induction xs with
  | nil => rfl
  | cons x xs ih => rw [List.map_cons, x_args, x_k, an_ok, ih, an_ok, List.map_cons]
theorem args_Z {xs : List Str} {Z : List (List (List Nat))} (h : xs = Z.map fun ws => mkS (lnC ws)) {env : Fx.Env} {R w : List D} : cArgs (xs.map fun x => cK (.str x)) env R w = .ok (Z.map fun ws => .str (mkS (lnC ws))) w := by
  rw [args_lit, h, List.map_map]
  rfl
theorem args5 (hN : N < 10) {w : List D} : cArgs [cK (.str "sees 0"), cK (.str "sees 0 0 0"), cK (.str "see 0 0"), cK (.str "sees 00 0"), cK (.str "sees 0 -1"), cBin gAdd (cK (.str "sees 0 ")) (cCall (one gStrI) (cArgs [cVar 3])), cK (.str "sees 0 1234567"), cK (.str "sees a 0"), cK (.str "")] (E0 S seen pr T dgt c N way spot) [] w = .ok ((Z5 N).map fun ws => .str (mkS (lnC ws))) w := by
  obtain ⟨h1, h2, h3, h4, h5, h6, h7, h8⟩ := lit5
  have st := strI_at (R := []) (w := w) (f := cVar 3) (env := E0 S seen pr T dgt c N way spot) hN rfl
  have l7 : (cp "sees 0 ").length = 7 := by decide
  have ld : (dg N).length = 1 := rfl
  have a5 : cBin gAdd (cK (.str "sees 0 ")) (cCall (one gStrI) (cArgs [cVar 3])) (E0 S seen pr T dgt c N way spot) [] w = .ok (.str (mkS (lnC [cp "sees", dg 0, dg N]))) w := by
    rw [x_bin, k_mk, an_ok, st, an_ok, see_str, see_str, catM (by omega)]
    have e : cp "sees 0 " = cp "sees" ++ [32] ++ dg 0 ++ [32] := by decide
    rw [e]
    simp [lnC, TL.joinL]
  simp only [x_args, x_args0, x_k, a5, an_ok, ← h1, ← h2, ← h3, ← h4, ← h5, ← h6, ← h7, ← h8, List.map_cons, List.map_nil]
end
def chain : SF := (sSeq (sIf (cTest (cBin gEq (cVar 8) (cK (.int 0)))) (sRet (cCall (fun ds => if ds.length = 1 then ev 59 .f_law_refused ds else M.no) (cArgs [cSl (cVar 6) (cNoPart) (cPart (cBin gSub (cCall (one gLen) (cArgs [cVar 6])) (cK (.int 1))))]))) (sNil))
  (sSeq (sIf (cTest (cBin gEq (cVar 8) (cK (.int 1)))) (sRet (cCall (fun ds => if ds.length = 1 then ev 59 .f_law_refused ds else M.no) (cArgs [cBin gAdd (cJoin (cK (.str "\n")) (cSl (cVar 7) (cPart (cK (.int 1))) (cNoPart))) (cK (.str "\n"))]))) (sNil))
  (sSeq (sIf (cTest (cBin gEq (cVar 8) (cK (.int 2)))) (sExpr (cMl gInsert (cVar 7) (cArgs [cVar 9, cBin gIx (cVar 7) (cVar 9)]))) (sNil))
  (sSeq (sIf (cTest (cBin gEq (cVar 8) (cK (.int 3)))) s3 (sNil))
  (sSeq (sIf (cTest (cBin gEq (cVar 8) (cK (.int 4)))) (sPut (cVar 7) (cVar 9) s4) (sNil))
  (sSeq (sIf (cTest (cBin gEq (cVar 8) (cK (.int 5)))) (sPut (cVar 7) (cK (.int 1)) (cBin gIx (cLst (cArgs [cK (.str "sees 0"), cK (.str "sees 0 0 0"), cK (.str "see 0 0"), cK (.str "sees 00 0"), cK (.str "sees 0 -1"), cBin gAdd (cK (.str "sees 0 ")) (cCall (one gStrI) (cArgs [cVar 3])), cK (.str "sees 0 1234567"), cK (.str "sees a 0"), cK (.str "")])) (cBin gMod (cCall (one gInt) (cArgs [cVar 2])) (cK (.int 9))))) (sNil))
  (sSeq (sIf (cTest (cBin gEq (cVar 8) (cK (.int 6)))) (sSeq (sSet 12 (cBin gSub (cCall (one gLen) (cArgs [cVar 7])) (cK (.int 1))))
  (sPut (cVar 7) (cVar 12) (cBin gIx (cLst (cArgs ((["true q", "true Q 0", "true 1q 0", "true q 1 0", "true q 0 0", "true abcdefghijklm 0", "true", "true  0", "true p 0"] : List Str).map fun x => cK (.str x)))) (cBin gMod (cCall (one gInt) (cArgs [cVar 2])) (cK (.int 9)))))) (sNil))
  (sSeq (sIf (cTest (cBin gEq (cVar 8) (cK (.int 7)))) (sPut (cVar 7) (cK (.int 0)) (cBin gIx (cLst (cArgs ((["worlds 0", "worlds", "worlds 2 2", "worlds 02", "world 2", "worlds 1", "worlds -2", "worlds two"] : List Str).map fun x => cK (.str x)))) (cBin gMod (cCall (one gInt) (cArgs [cVar 2])) (cK (.int 8))))) (sNil))
  (sSeq (sIf (cTest (cBin gEq (cVar 8) (cK (.int 8)))) (sExpr (cMl gAppend (cVar 7) (cArgs [cBin gIx (cLst (cArgs ((["", "sees 1 1", "true p 1", "worlds 2", "true a 0", "# end"] : List Str).map fun x => cK (.str x)))) (cBin gMod (cCall (one gInt) (cArgs [cVar 2])) (cK (.int 6)))]))) (sNil))
  finS)))))))))
section
variable {N : Nat} {s : Nat → Nat → Bool} {S seen pr : D} {dgt c way spot : Nat}
theorem chain_ok (B : Bas N s) (hw : way < 9) (hsp : spot < (L0 N s).length) : ∃ env' w', chain (E0 S seen pr (.str (mkS (mtx (L0 N s)))) dgt c N way spot) [] [lnsD (L0 N s)] = .go (.rt (.bl true)) env' w' := by
  have h5 := B.hi
  have lok := lok_L0 B
  have ll := L0_len B
  obtain ⟨X, y, Y, hat, hX⟩ := at_of hsp
  have n0 : (10 : Nat) ∉ ([] : List Nat) := by simp
  have lt := prs_lt (A := Am N s)
  have lokB0 := lok_base B
  have e10 : cp "\n" = [10] := by decide
  have hcase : way = 0 ∨ way = 1 ∨ way = 2 ∨ way = 3 ∨ way = 4 ∨ way = 5 ∨ way = 6 ∨ way = 7 ∨ way = 8 := by omega
  unfold chain
  rcases hcase with rfl | rfl | rfl | rfl | rfl | rfl | rfl | rfl | rfl
  · -- the last line feed
    have tl := txt_len (L := L0 N s) (t := []) lok (by omega) (by simp)
    rw [List.append_nil] at tl
    have hs : sizeLine = 16777216 := rfl
    have lenX := mk_len (mtx (L0 N s))
    have ne : L0 N s ≠ [] := by simp [L0]
    have ej := mtx_join2 (L0 N s) ne
    have sl := sl_to (X := mkS (mtx (L0 N s))) (by omega) (b := (mkS (mtx (L0 N s))).length - 1) (by omega) (ro := []) (w := [lnsD (L0 N s)])
    have tk : (cp (mkS (mtx (L0 N s)))).take ((mkS (mtx (L0 N s))).length - 1) = mtx (wdW N :: ((Am N s).pairs.map wdS ++ [Tp])) ++ lnC (Tq N) := by
      rw [cp_mk, mk_len, ej, List.length_append, List.length_singleton, Nat.add_sub_cancel, List.take_left', mtx_joinT]
      · congr 1
        simp [L0]
      · rfl
    rw [tk] at sl
    have rf := refused (m := 59) (by decide) B.good (show N < 10 by omega) lt (L := wdW N :: ((Am N s).pairs.map wdS ++ [Tp])) (t := lnC (Tq N)) (fun ws hws => lok ws (by
      simp only [List.mem_cons, List.mem_append, List.not_mem_nil, or_false] at hws
      simp only [L0, List.mem_cons, List.mem_append, List.not_mem_nil, or_false]
      rcases hws with h | h | h <;> simp [h])) (by simp; omega) (ln_free lokB0.2.2.2.1) (by
      have l1 := lnC_len (Tq N) (m := 12) fun x hx => by
        simp only [Tq, wdT, List.map_cons, List.map_nil, List.mem_cons, List.not_mem_nil, or_false] at hx
        rcases hx with rfl | rfl | rfl
        · decide
        · decide
        · show 1 ≤ 12
          omega
      have l2 : (Tq N).length = 3 := rfl
      rw [l2] at l1
      omega) (ln_small fun x hx => (lokB0.2.2.2.2.1 x hx).1) (f_0 B) (ro := []) (w := [lnsD (L0 N s)])
    have lg : ∀ w, gLen (.str (mkS (mtx (L0 N s)))) [] w = .ok (.int ((mkS (mtx (L0 N s))).length : Nat)) w := fun w => len_X (by omega)
    have sb : ∀ w, gSub (.int ((mkS (mtx (L0 N s))).length : Nat)) (.int 1) [] w = .ok (.int (((mkS (mtx (L0 N s))).length - 1 : Nat) : Int)) w := fun w => by
      rw [sub_int]
      have : 0 < (mkS (mtx (L0 N s))).length := by
        rw [lenX, ej, List.length_append, List.length_singleton]
        omega
      congr 2
      omega
    refine ⟨_, _, hitr (i := 0) rfl (d := .bl true) (env' := E0 S seen pr (.str (mkS (mtx (L0 N s)))) dgt c N 0 spot) (w' := [lnsD (L0 N s)]) ?_⟩
    have v6 : ∀ w, cVar 6 (E0 S seen pr (.str (mkS (mtx (L0 N s)))) dgt c N 0 spot) [] w = .ok (.str (mkS (mtx (L0 N s)))) w := fun _ => rfl
    simp only [x_ret, x_call, x_args, x_args0, x_sl, x_noPart, x_part, x_bin, x_one, x_k, v6, an_ok, see_str, lg, see_int, sb, partV_int, sl, List.length_cons, List.length_nil, Nat.zero_add, if_true, rf, st_ok]
  · -- the first line
    have eL : (L0 N s).drop 1 = (Am N s).pairs.map wdS ++ [Tp, Tq N] := rfl
    have ne : (L0 N s).drop 1 ≠ [] := by rw [eL]; simp
    have all1 : ∀ ws ∈ (L0 N s).drop 1, LOk ws := fun ws h => lok ws (List.mem_of_mem_drop h)
    have l1 : ((L0 N s).drop 1).length ≤ 90 := by rw [List.length_drop]; omega
    have j := lns_join (R := []) (w := [lnsD (L0 N s)]) all1 l1
    have rf := refused (m := 59) (by decide) B.good (show N < 10 by omega) lt all1 l1 n0 (by simp) (fun c h => by cases h) (f_1 B) (ro := []) (w := [lnsD (L0 N s)])
    rw [List.append_nil] at rf
    have tl := txt_len (t := []) all1 l1 (by simp)
    rw [List.append_nil, mk_len, mtx_join2 _ ne, List.length_append, List.length_singleton] at tl
    have cc := catM (ro := []) (w := [lnsD (L0 N s)]) (a := TL.joinL [10] (((L0 N s).drop 1).map lnC)) (b := [10]) (by rw [List.length_singleton]; omega)
    rw [← mtx_join2 _ ne] at cc
    rw [skip (by decide)]
    refine ⟨_, _, hitr (i := 1) rfl (d := .bl true) (env' := E0 S seen pr (.str (mkS (mtx (L0 N s)))) dgt c N 1 spot) (w' := [lnsD (L0 N s)]) ?_⟩
    have v7 : ∀ w, cVar 7 (E0 S seen pr (.str (mkS (mtx (L0 N s)))) dgt c N 1 spot) [] w = .ok (.ref 0) w := fun _ => rfl
    have cs : cSl (cVar 7) (cPart (cK (.int 1))) (cNoPart) (E0 S seen pr (.str (mkS (mtx (L0 N s)))) dgt c N 1 spot) [] [lnsD (L0 N s)] = .ok (lnsD ((L0 N s).drop 1)) [lnsD (L0 N s)] := by
      simp only [x_sl, x_noPart, x_part, x_k, v7, an_ok, see_int, partV_int, see0, sl_lst]
      congr 2
      have e1 : ∀ l : List D, cut l (some (1 : Int)) none = l.drop 1 := fun l => by
        unfold cut
        rw [HT.sIx_none, show (some (1 : Int)) = some ((1 : Nat) : Int) from rfl, HT.sIx_nat]
        by_cases c : 1 ≤ l.length
        · rw [Nat.min_eq_left c, List.take_of_length_le (by rw [List.length_drop]; omega)]
        · have : l = [] := List.length_eq_zero_iff.mp (by omega)
          rw [this]
          rfl
      rw [e1, ← List.map_drop]
    have sl : see [] [lnsD (L0 N s)] (lnsD ((L0 N s).drop 1)) = lnsD ((L0 N s).drop 1) := rfl
    have a1 : cBin gAdd (cJoin (cK (.str "\n")) (cSl (cVar 7) (cPart (cK (.int 1))) (cNoPart))) (cK (.str "\n")) (E0 S seen pr (.str (mkS (mtx (L0 N s)))) dgt c N 1 spot) [] [lnsD (L0 N s)] = .ok (.str (mkS (mtx ((L0 N s).drop 1)))) [lnsD (L0 N s)] := by
      rw [x_bin, x_join (x := "\n") rfl, cs, an_ok, sl, j, an_ok, k_mk, e10, an_ok, see_str, see_str, cc]
    rw [x_ret, x_call, x_args, a1, an_ok, x_args0, an_ok, an_ok]
    simp only [List.length_cons, List.length_nil, Nat.zero_add, if_true, rf, st_ok]
  · -- a line doubled
    have t2 := two_of B hat (lok y (by rw [at_eq hat]; simp))
    have eL := at_eq hat
    have b := s_way2 (S := S) (seen := seen) (pr := pr) (T := .str (mkS (mtx (L0 N s)))) (dgt := dgt) (c := c) (N := N) (way := 2) (X := X) (Y := Y) (y := y) hX (by have := t2.2.2.1; omega)
    rw [skip (by decide), skip (by decide)]
    generalize hT : D.str (mkS (mtx (L0 N s))) = T at b ⊢
    rw [eL, hit (i := 2) rfl b, skip (by decide), skip (by decide), skip (by decide), skip (by decide), skip (by decide), skip (by decide)]
    exact ⟨_, _, fin_way B (L := X ++ y :: y :: Y) (by simp) t2.2.1 (by have := t2.2.2.2; omega) (f_way2 B hat)⟩
  · -- two lines exchanged
    rw [skip (by decide), skip (by decide), skip (by decide)]
    generalize hT : D.str (mkS (mtx (L0 N s))) = T
    have hlen : 0 < (L0 N s).length ∧ (L0 N s).length < 1000 := by omega
    have hold : ∀ (L2 : List (List (List Nat))) (e10 e11 : Option D), L2 ≠ [] → (∀ ws ∈ L2, LOk ws) → L2.length ≤ 90 → Fails (Am N s) L2 [] → s3 (E0 S seen pr T dgt c N 3 spot) [] [lnsD (L0 N s)] = .go .nx (lw S seen pr T dgt c N 3 spot e10 e11 none) [lnsD L2] → ∃ env' w', (sSeq (sIf (cTest (cBin gEq (cVar 8) (cK (.int 3)))) s3 (sNil))
  (sSeq (sIf (cTest (cBin gEq (cVar 8) (cK (.int 4)))) (sPut (cVar 7) (cVar 9) s4) (sNil))
  (sSeq (sIf (cTest (cBin gEq (cVar 8) (cK (.int 5)))) (sPut (cVar 7) (cK (.int 1)) (cBin gIx (cLst (cArgs [cK (.str "sees 0"), cK (.str "sees 0 0 0"), cK (.str "see 0 0"), cK (.str "sees 00 0"), cK (.str "sees 0 -1"), cBin gAdd (cK (.str "sees 0 ")) (cCall (one gStrI) (cArgs [cVar 3])), cK (.str "sees 0 1234567"), cK (.str "sees a 0"), cK (.str "")])) (cBin gMod (cCall (one gInt) (cArgs [cVar 2])) (cK (.int 9))))) (sNil))
  (sSeq (sIf (cTest (cBin gEq (cVar 8) (cK (.int 6)))) (sSeq (sSet 12 (cBin gSub (cCall (one gLen) (cArgs [cVar 7])) (cK (.int 1))))
  (sPut (cVar 7) (cVar 12) (cBin gIx (cLst (cArgs ((["true q", "true Q 0", "true 1q 0", "true q 1 0", "true q 0 0", "true abcdefghijklm 0", "true", "true  0", "true p 0"] : List Str).map fun x => cK (.str x)))) (cBin gMod (cCall (one gInt) (cArgs [cVar 2])) (cK (.int 9)))))) (sNil))
  (sSeq (sIf (cTest (cBin gEq (cVar 8) (cK (.int 7)))) (sPut (cVar 7) (cK (.int 0)) (cBin gIx (cLst (cArgs ((["worlds 0", "worlds", "worlds 2 2", "worlds 02", "world 2", "worlds 1", "worlds -2", "worlds two"] : List Str).map fun x => cK (.str x)))) (cBin gMod (cCall (one gInt) (cArgs [cVar 2])) (cK (.int 8))))) (sNil))
  (sSeq (sIf (cTest (cBin gEq (cVar 8) (cK (.int 8)))) (sExpr (cMl gAppend (cVar 7) (cArgs [cBin gIx (cLst (cArgs ((["", "sees 1 1", "true p 1", "worlds 2", "true a 0", "# end"] : List Str).map fun x => cK (.str x)))) (cBin gMod (cCall (one gInt) (cArgs [cVar 2])) (cK (.int 6)))]))) (sNil))
  finS)))))) (E0 S seen pr T dgt c N 3 spot) [] [lnsD (L0 N s)] = .go (.rt (.bl true)) env' w' := fun L2 e10 e11 ne all ln F b => by
      rw [hit (i := 3) rfl b, skip (by decide), skip (by decide), skip (by decide), skip (by decide), skip (by decide)]
      exact ⟨_, _, fin_way B ne all ln F⟩
    by_cases last : spot + 1 < (L0 N s).length
    · obtain ⟨v, Y', rfl⟩ : ∃ v Y', Y = v :: Y' := by
        cases Y with
        | nil =>
          rw [at_eq hat, List.length_append, List.length_singleton] at last
          omega
        | cons v Y' => exact ⟨v, Y', rfl⟩
      have eL := at_eq hat
      have lokv : LOk v := lok v (by rw [eL]; simp)
      have loky : LOk y := lok y (by rw [eL]; simp)
      obtain ⟨e10, e11, b⟩ := s_way3 (S := S) (seen := seen) (pr := pr) (T := T) (dgt := dgt) (c := c) (N := N) (way := 3) (spot := spot) (L := L0 N s) hlen (y := y) (v := v) (L1 := X ++ v :: v :: Y') (L2 := X ++ v :: y :: Y') (o := spot + 1) (Nat.mod_eq_of_lt last) (fun w => by rw [eL]; exact ix_ln hX) (fun w => by
        rw [eL, show X ++ y :: v :: Y' = (X ++ [y]) ++ v :: Y' by simp]
        exact ix_ln (by simp [hX])) (by rw [eL]; exact put_ln hX) (by
        rw [show X ++ v :: v :: Y' = (X ++ [v]) ++ v :: Y' by simp, show X ++ v :: y :: Y' = (X ++ [v]) ++ y :: Y' by simp]
        exact put_ln (by simp [hX]))
      refine hold _ e10 e11 (by simp) (fun ws hws => ?_) ?_ (f_way3 B hat) b
      · simp only [List.mem_append, List.mem_cons] at hws
        rcases hws with h | h | h | h
        · exact lok ws (by rw [eL]; simp [h])
        · rw [h]; exact lokv
        · rw [h]; exact loky
        · exact lok ws (by rw [eL]; simp [h])
      · have := ll.2
        rw [eL] at this
        simp at this ⊢
        omega
    · have es : spot + 1 = (L0 N s).length := by omega
      have eL : L0 N s = (wdW N :: ((Am N s).pairs.map wdS ++ [Tp])) ++ Tq N :: [] := by simp [L0]
      have e2 : L0 N s = [] ++ wdW N :: ((Am N s).pairs.map wdS ++ [Tp, Tq N]) := rfl
      have hi : (wdW N :: ((Am N s).pairs.map wdS ++ [Tp])).length = spot := by
        have := ll.1
        simp
        omega
      obtain ⟨e10, e11, b⟩ := s_way3 (S := S) (seen := seen) (pr := pr) (T := T) (dgt := dgt) (c := c) (N := N) (way := 3) (spot := spot) (L := L0 N s) hlen (y := Tq N) (v := wdW N) (L1 := (wdW N :: ((Am N s).pairs.map wdS ++ [Tp])) ++ wdW N :: []) (L2 := [] ++ Tq N :: ((Am N s).pairs.map wdS ++ [Tp, wdW N])) (o := 0) (by rw [es, Nat.mod_self]) (fun w => by rw [eL]; exact ix_ln hi) (fun w => by
        rw [e2]
        exact ix_ln rfl) (by rw [eL]; exact put_ln hi) (by
        rw [show (wdW N :: ((Am N s).pairs.map wdS ++ [Tp])) ++ wdW N :: [] = [] ++ wdW N :: ((Am N s).pairs.map wdS ++ [Tp, wdW N]) by simp]
        exact put_ln rfl)
      refine hold _ e10 e11 (by simp) (fun ws hws => ?_) ?_ (f_first fun st => st_Tno (.inl rfl)) b
      · simp only [List.nil_append, List.mem_append, List.mem_cons, List.not_mem_nil, or_false] at hws
        rcases hws with h | h | h | h
        · rw [h]; exact lokB0.2.2.2
        · exact lokB0.2.1 ws h
        · rw [h]; exact lokB0.2.2.1
        · rw [h]; exact lokB0.1
      · have := ll.1
        simp
        omega
  · -- a space more
    have eL := at_eq hat
    rw [skip (by decide), skip (by decide), skip (by decide), skip (by decide)]
    generalize hT : D.str (mkS (mtx (L0 N s))) = T
    obtain ⟨z, hz, v⟩ := s_way4 (S := S) (seen := seen) (pr := pr) (T := T) (dgt := dgt) (c := c) (way := 4) B hat hX
    obtain ⟨F, lz⟩ := f_way4 B hat hz
    have t2 := two_of B hat lz
    have b := s_put (i := spot) (fi := cVar 9) (X := X) (Y := Y) (y := y) (z := z) (env := E0 S seen pr T dgt c N 4 spot) rfl hX v rfl
    rw [eL, hit (i := 4) rfl b, skip (by decide), skip (by decide), skip (by decide), skip (by decide)]
    exact ⟨_, _, fin_way B (by simp) t2.1 (by have := t2.2.2.1; omega) F⟩
  · -- a wrong pair
    rw [skip (by decide), skip (by decide), skip (by decide), skip (by decide), skip (by decide)]
    generalize hT : D.str (mkS (mtx (L0 N s))) = T
    obtain ⟨P, e⟩ := B.fst
    have eL : L0 N s = [wdW N] ++ wdS (0, 0) :: (P.map wdS ++ [Tp, Tq N]) := by
      unfold L0
      rw [e]
      rfl
    obtain ⟨v, hm⟩ := pick 9 (c := c) (Z := Z5 N) (m := 9) (env := E0 S seen pr T dgt c N 5 spot) (w := [lnsD (L0 N s)]) rfl (by decide) (args5 (by omega)) rfl (fun w => mod_ok (m := 9) (by decide))
    obtain ⟨F, lz⟩ := f_way5 B e _ hm
    rw [eL] at v
    have b := s_put (i := 1) (fi := cK (.int 1)) (X := [wdW N]) (Y := P.map wdS ++ [Tp, Tq N]) (y := wdS (0, 0)) (env := E0 S seen pr T dgt c N 5 spot) rfl rfl v rfl
    have lok2 := lok
    have ll2 := ll.2
    rw [eL] at lok2 ll2
    rw [eL, hit (i := 5) rfl b, skip (by decide), skip (by decide), skip (by decide)]
    refine ⟨_, _, fin_way B (by simp) (fun ws hws => ?_) (by simp at ll2 ⊢; omega) F⟩
    simp only [List.mem_append, List.mem_cons, List.not_mem_nil, or_false] at hws
    rcases hws with h | h | h
    · exact lok2 ws (by simp [h])
    · rw [h]; exact lz
    · exact lok2 ws (by simp only [List.mem_append, List.mem_cons, List.not_mem_nil, or_false]; exact .inr (.inr h))
  · -- a wrong name
    rw [skip (by decide), skip (by decide), skip (by decide), skip (by decide), skip (by decide), skip (by decide)]
    generalize hT : D.str (mkS (mtx (L0 N s))) = T
    have eL : L0 N s = (wdW N :: ((Am N s).pairs.map wdS ++ [Tp])) ++ Tq N :: [] := by simp [L0]
    obtain ⟨q, hq⟩ : ∃ q, (L0 N s).length - 1 = q := ⟨_, rfl⟩
    have hi : (wdW N :: ((Am N s).pairs.map wdS ++ [Tp])).length = q := by
      have := ll.1
      simp
      omega
    have l12 : (sSet 12 (cBin gSub (cCall (one gLen) (cArgs [cVar 7])) (cK (.int 1)))) (E0 S seen pr T dgt c N 6 spot) [] [lnsD (L0 N s)] = .go .nx (lw S seen pr T dgt c N 6 spot none none (some (.int (q : Nat)))) [lnsD (L0 N s)] := by
      have sb : ∀ w, gSub (.int ((L0 N s).length : Nat)) (.int 1) [] w = .ok (.int (q : Nat)) w := fun w => by
        rw [sub_int]
        congr 2
        omega
      have sl : see [] [lnsD (L0 N s)] (.ref 0) = lnsD (L0 N s) := rfl
      simp only [x_set, x_bin, x_call, x_args, x_args0, x_one, x_k, x_var, lw, List.getElem?_cons_zero, List.getElem?_cons_succ, ofO_ss, an_ok, sl, len_ln, see_int, sb, st_ok, List.set_cons_succ, List.set_cons_zero]
    obtain ⟨v, hm⟩ := pick 9 (c := c) (Z := Z6) (m := 9) (env := lw S seen pr T dgt c N 6 spot none none (some (.int (q : Nat)))) (w := [lnsD (L0 N s)]) rfl (by decide) (args_Z lit6) rfl (fun w => mod_ok (m := 9) (by decide))
    obtain ⟨F, lz⟩ := f_way6 B _ hm
    have v' := v
    rw [eL] at v'
    have b := s_put (i := q) (fi := cVar 12) (X := wdW N :: ((Am N s).pairs.map wdS ++ [Tp])) (Y := []) (y := Tq N) (env := lw S seen pr T dgt c N 6 spot none none (some (.int (q : Nat)))) rfl hi v' rfl
    rw [← eL] at b
    have b2 : (sSeq (sSet 12 (cBin gSub (cCall (one gLen) (cArgs [cVar 7])) (cK (.int 1))))
  (sPut (cVar 7) (cVar 12) (cBin gIx (cLst (cArgs ((["true q", "true Q 0", "true 1q 0", "true q 1 0", "true q 0 0", "true abcdefghijklm 0", "true", "true  0", "true p 0"] : List Str).map fun x => cK (.str x)))) (cBin gMod (cCall (one gInt) (cArgs [cVar 2])) (cK (.int 9)))))) (E0 S seen pr T dgt c N 6 spot) [] [lnsD (L0 N s)] = .go .nx (lw S seen pr T dgt c N 6 spot none none (some (.int (q : Nat)))) [lnsD ((wdW N :: ((Am N s).pairs.map wdS ++ [Tp])) ++ Z6.getD (c % 9) [[]] :: [])] := by
      rw [x_seq, l12, oan_nx]
      exact b
    rw [hit (i := 6) rfl b2, skip (by decide), skip (by decide)]
    refine ⟨_, _, fin_way B (by simp) (fun ws hws => ?_) ?_ (by simpa using F)⟩
    · simp only [List.mem_append, List.mem_cons, List.not_mem_nil, or_false] at hws
      rcases hws with (h | h | h) | h
      · rw [h]; exact lokB0.1
      · exact lokB0.2.1 ws h
      · rw [h]; exact lokB0.2.2.1
      · rw [h]; exact lz
    · have := ll.1
      simp
      omega
  · -- a wrong first line
    rw [skip (by decide), skip (by decide), skip (by decide), skip (by decide), skip (by decide), skip (by decide), skip (by decide)]
    generalize hT : D.str (mkS (mtx (L0 N s))) = T
    obtain ⟨v, hm⟩ := pick 8 (c := c) (Z := Z7) (m := 8) (env := E0 S seen pr T dgt c N 7 spot) (w := [lnsD (L0 N s)]) rfl (by decide) (args_Z lit7) rfl (fun w => mod_ok (m := 8) (by decide))
    obtain ⟨F, lz⟩ := f_way7 B _ hm
    have b := s_put (i := 0) (fi := cK (.int 0)) (X := []) (Y := (Am N s).pairs.map wdS ++ [Tp, Tq N]) (y := wdW N) (env := E0 S seen pr T dgt c N 7 spot) rfl rfl v rfl
    have b' : (sPut (cVar 7) (cK (.int 0)) (cBin gIx (cLst (cArgs ((["worlds 0", "worlds", "worlds 2 2", "worlds 02", "world 2", "worlds 1", "worlds -2", "worlds two"] : List Str).map fun x => cK (.str x)))) (cBin gMod (cCall (one gInt) (cArgs [cVar 2])) (cK (.int 8))))) (E0 S seen pr T dgt c N 7 spot) [] [lnsD (L0 N s)] = _ := b
    rw [hit (i := 7) rfl b', skip (by decide)]
    refine ⟨_, _, fin_way B (by simp) (fun ws hws => ?_) ?_ F⟩
    · simp only [List.nil_append, List.mem_append, List.mem_cons, List.not_mem_nil, or_false] at hws
      rcases hws with h | h | h | h
      · rw [h]; exact lz
      · exact lokB0.2.1 ws h
      · rw [h]; exact lokB0.2.2.1
      · rw [h]; exact lokB0.2.2.2
    · have := ll.1
      simp
      omega
  · -- a line more
    rw [skip (by decide), skip (by decide), skip (by decide), skip (by decide), skip (by decide), skip (by decide), skip (by decide), skip (by decide)]
    generalize hT : D.str (mkS (mtx (L0 N s))) = T
    obtain ⟨v, hm⟩ := pick 6 (c := c) (Z := Z8) (m := 6) (env := E0 S seen pr T dgt c N 8 spot) (w := [lnsD (L0 N s)]) rfl (by decide) (args_Z lit8) rfl (fun w => mod_ok (m := 6) (by decide))
    obtain ⟨F, lz⟩ := f_way8 B _ hm
    have hs : sizeLine = 16777216 := rfl
    have b : (sExpr (cMl gAppend (cVar 7) (cArgs [cBin gIx (cLst (cArgs ((["", "sees 1 1", "true p 1", "worlds 2", "true a 0", "# end"] : List Str).map fun x => cK (.str x)))) (cBin gMod (cCall (one gInt) (cArgs [cVar 2])) (cK (.int 6)))]))) (E0 S seen pr T dgt c N 8 spot) [] [lnsD (L0 N s)] = .go .nx (E0 S seen pr T dgt c N 8 spot) [lnsD (L0 N s ++ [Z8.getD (c % 6) [[]]])] := by
      have v7 : ∀ w, cVar 7 (E0 S seen pr T dgt c N 8 spot) [] w = .ok (.ref 0) w := fun _ => rfl
      have mlv : ∀ (k : List D → Out D) w, mlV (lnsD (L0 N s)) k w = k w := fun _ _ => rfl
      have ap := append_at (ro := []) (w := [lnsD (L0 N s)]) (n := 0) (d := .str (mkS (lnC (Z8.getD (c % 6) [[]])))) (ds := (L0 N s).map fun ws => D.str (mkS (lnC ws))) rfl (by rw [List.length_map]; omega)
      have sl : see [] [lnsD (L0 N s)] (.ref 0) = lnsD (L0 N s) := rfl
      rw [x_expr, x_ml, v7, an_ok, sl, mlv, x_args, v, an_ok, x_args0, an_ok, an_ok]
      have ap' : gAppend [.str (mkS (lnC (Z8.getD (c % 6) [[]])))] (.ref 0) [] [lnsD (L0 N s)] = .ok .non [lnsD (L0 N s ++ [Z8.getD (c % 6) [[]]])] := by
        refine ap.trans ?_
        show Out.ok D.non [D.lst _] = Out.ok D.non [D.lst _]
        rw [List.map_append]
        rfl
      rw [ap', st_ok]
    rw [hit (i := 8) rfl b]
    refine ⟨_, _, fin_way B (by simp) (fun ws hws => ?_) (by rw [List.length_append, List.length_singleton]; omega) F⟩
    rcases List.mem_append.mp hws with h | h
    · exact lok ws h
    · rw [List.mem_singleton.mp h]; exact lz
end
theorem law_true (ns : List Int) (hns : ns.length ≤ 63) : ∃ w', ev 60 .f_law [.lst (ns.map .int)] [] [] = .ok (.bl true) w' := by
  obtain ⟨c0, e0⟩ := e_cell (n := 58) (i := 0) (ns := ns) (ro := []) (w := [])
  obtain ⟨c1, e1⟩ := e_cell (n := 58) (i := 1) (ns := ns) (ro := []) (w := [])
  have e0' : ev 59 .f_law_cell [.lst (ns.map .int), .int 0] [] [] = .ok (.int c0) [] := e0
  have e1' : ev 59 .f_law_cell [.lst (ns.map .int), .int 1] [] [] = .ok (.int c1) [] := e1
  generalize hdg : c0.natAbs = dgt
  generalize hcc : c1.natAbs = c
  generalize hNN : 2 + dgt % 4 = N
  generalize hs0 : (fun v w : Nat => decide (Builtin.bitAnd ((c : Int) / 2 ^ (5 * v + w)) 1 = 1) || decide (v = 0 ∧ w = 0 ∨ v = 1 ∧ w = 1)) = s
  have B : Bas N s := ⟨by omega, by omega, by rw [← hs0]; simp, by rw [← hs0]; simp⟩
  have h5 := B.hi
  have h2 := B.lo
  have few := B.few
  have lt := prs_lt (A := Am N s)
  generalize hS : D.lst (ns.map D.int) = S at e0' e1' ⊢
  generalize hpr : D.lst ((Am N s).pairs.map prD) = pr
  let V : List (Str × List Nat) := [("p", [0, 1]), ("q", [N - 1])]
  have ndV : (V.map (·.1)).Nodup := nd_pq.1
  have kvV : KvOk N V := ⟨fun p hp => by
    simp only [V, List.mem_cons, List.not_mem_nil, or_false] at hp
    rcases hp with rfl | rfl
    · exact nmB_name n_p
    · exact nmB_name n_q, fun p hp => by
    simp only [V, List.mem_cons, List.not_mem_nil, or_false] at hp
    rcases hp with rfl | rfl
    · refine ⟨fun i hi => ?_, by simp⟩
      simp only [List.mem_cons, List.not_mem_nil, or_false] at hi
      omega
    · refine ⟨fun i hi => ?_, by simp⟩
      rw [List.mem_singleton.mp hi]
      omega, by simp [V]⟩
  have sV : keptS (sortKV V) = V := by
    rw [show sortKV V = V from sortKV_is ndV (List.Perm.refl _) nd_pq.2]
    exact (kept_N N h2 h5).1
  have eV : mws N (Am N s).pairs V = L0 N s := rfl
  have lt' : ∀ w, ev 59 .f_law_model_text [.int (N : Nat), pr, vD V] [] w = .ok (.str (mkS (mtx (L0 N s)))) w := fun w => by
    have := e_ltext (n := 59) (N := N) (l := (Am N s).pairs) (v := V) (ro := []) (w := w) (by decide) (by omega) (by omega) (fun p hp => B.lt10 p hp) ndV kvV
    rw [sV, eV] at this
    rw [← hpr]
    exact this
  have rd : ∀ w, ∃ d, ev 59 .f_read_model [.str (mkS (mtx (L0 N s)))] [] w = .ok d w := fun w => by
    have e : rdL 0 (L0 N s) ⟨0, [], []⟩ = some ⟨(N : Int), (Am N s).pairs.map castP, V.map castV⟩ := rdL_baseQ B (T := [])
    refine ⟨_, read_yes (m := 59) (by decide) B.good (show N < 10 by omega) lt (lok_L0 B) (by have := (L0_len B).2; omega) e rfl rfl ?_ (fun p hp => ?_) (by simp [V]) ?_ ?_ (ro := []) (w := w)⟩
    · show ((V.map castV).map (·.1)).Nodup
      rw [List.map_map]
      exact ndV
    · obtain ⟨q, hq, rfl⟩ := List.mem_map.mp hp
      refine ⟨?_, kvV.nm q hq⟩
      show (q.2.map _).length < 64
      rw [List.length_map]
      have := (kvV.rg q hq).2
      omega
    · have key : ∀ p ∈ V, ∀ i ∈ p.2, i < N := fun p hp => (kvV.rg p hp).1
      unfold kvs
      rw [List.all_eq_true]
      intro p hp
      obtain ⟨q, hq, rfl⟩ := List.mem_map.mp hp
      obtain ⟨r, hr, rfl⟩ := List.mem_map.mp hq
      unfold KV.ok
      rw [List.all_eq_true]
      intro i hi
      obtain ⟨j, hj, rfl⟩ := List.mem_map.mp hi
      have := key r hr j hj
      exact decide_eq_true (show (0 : Int) ≤ ((j : Nat) : Int) ∧ ((j : Nat) : Int) < (N : Int) by omega)
    · rw [toN_cast, (kept_pq N h2 h5).1]
      exact eV
  obtain ⟨rdv, rd0⟩ := rd []
  have hz : (L0 N s) ≠ [] := by simp [L0]
  have ll := L0_len B
  have l0 := L0_len B
  generalize hX : mkS (mtx (L0 N s)) = X at lt' rd0
  have spl : Txt.split (mkS (TL.joinL [10] ((L0 N s).map lnC))) "\n" = ((L0 N s).map lnC).map mkS := split_cp (c := 10) (by decide) (by decide) (by simp [L0]) (fun p hp => by
    obtain ⟨ws, hw, rfl⟩ := List.mem_map.mp hp
    exact ln_free (lok_L0 B ws hw).1) rfl
  have tl := txt_len (L := L0 N s) (t := []) (lok_L0 B) (by omega) (by simp)
  rw [List.append_nil, hX] at tl
  have lX : X.length = (TL.joinL [10] ((L0 N s).map lnC)).length + 1 := by
    rw [← hX, mk_len, mtx_join2 _ hz, List.length_append, List.length_singleton]
  have run : ∃ w', (b_law (ev 59) [some S, none, none, none, none, none, none, none, none, none, none, none, none, none, none] [] []).fin = .ok (.bl true) w' := by
    unfold b_law
    rw [x_seq, x_set]
    have a1 : cCall (one gAbs) (cArgs [cCall (fun ds => if ds.length = 2 then ev 59 .f_law_cell ds else M.no) (cArgs [cVar 0, cK (.int 0)])]) [some S, none, none, none, none, none, none, none, none, none, none, none, none, none, none] [] [] = .ok (.int (dgt : Nat)) [] := by
      simp only [x_call, x_args, x_args0, x_one, x_k, x_var, List.getElem?_cons_zero, ofO_ss, an_ok, List.length_cons, List.length_nil, Nat.zero_add, Nat.reduceAdd, if_true, e0', see_int, abs_int, hdg]
    rw [a1, st_ok, oan_nx]
    simp only [List.set_cons_succ, List.set_cons_zero]
    have a2 : cCall (one gAbs) (cArgs [cCall (fun ds => if ds.length = 2 then ev 59 .f_law_cell ds else M.no) (cArgs [cVar 0, cK (.int 1)])]) [some S, some (.int (dgt : Nat)), none, none, none, none, none, none, none, none, none, none, none, none, none] [] [] = .ok (.int (c : Nat)) [] := by
      simp only [x_call, x_args, x_args0, x_one, x_k, x_var, List.getElem?_cons_zero, ofO_ss, an_ok, List.length_cons, List.length_nil, Nat.zero_add, Nat.reduceAdd, if_true, e1', see_int, abs_int, hcc]
    rw [x_seq, x_set, a2, st_ok, oan_nx]
    simp only [List.set_cons_succ, List.set_cons_zero]
    have a3 : cBin gAdd (cK (.int 2)) (cBin gMod (cCall (one gInt) (cArgs [cVar 1])) (cK (.int 4))) [some S, some (.int (dgt : Nat)), some (.int (c : Nat)), none, none, none, none, none, none, none, none, none, none, none, none] [] [] = .ok (.int (N : Nat)) [] := by
      have md : gMod (.int (dgt : Nat)) (.int 4) [] [] = .ok (.int ((dgt % 4 : Nat) : Int)) [] := mod_ok (m := 4) (by decide)
      simp only [x_bin, x_call, x_args, x_args0, x_one, x_k, x_var, List.getElem?_cons_zero, List.getElem?_cons_succ, ofO_ss, an_ok, see_int, int_int, md, add_int]
      rw [← hNN]
      congr 2
    rw [x_seq, x_set, a3, st_ok, oan_nx]
    simp only [List.set_cons_succ, List.set_cons_zero]
    have rng : ∀ (e4 e13 e14 : Option D), cRng1 (cArgs [cVar 3]) [some S, some (.int (dgt : Nat)), some (.int (c : Nat)), some (.int (N : Nat)), e4, none, none, none, none, none, none, none, none, e13, e14] [] [] = .ok ((List.range N).map nD) [] := fun e4 e13 e14 => by
      rw [x_rng1]
      simp only [x_args, x_args0, x_var, List.getElem?_cons_zero, List.getElem?_cons_succ, ofO_ss, an_ok]
      rw [rng1_nat (by omega), rngD_nat]
    have grid : cComp (.nm 13) [13] (cRng1 (cArgs [cVar 3])) (cYes) (cComp (.nm 14) [14] (cRng1 (cArgs [cVar 3])) (cYes) (cOr (cBin gEq (cBin gBand (cBin gShr (cVar 2) (cBin gAdd (cBin gMul (cK (.int 5)) (cVar 13)) (cVar 14))) (cK (.int 1))) (cK (.int 1))) (cBin (gInT false) (cTup (cArgs [cVar 13, cVar 14])) (cTup (cArgs [cTup (cArgs [cK (.int 0), cK (.int 0)]), cTup (cArgs [cK (.int 1), cK (.int 1)])])))) kStill) kStill [some S, some (.int (dgt : Nat)), some (.int (c : Nat)), some (.int (N : Nat)), none, none, none, none, none, none, none, none, none, none, none] [] [] = .ok (seenD (Am N s)) [] := by
      have hsz : sizeLine = 16777216 := rfl
      have inner : ∀ i, i < N → cComp (.nm 14) [14] (cRng1 (cArgs [cVar 3])) (cYes) (cOr (cBin gEq (cBin gBand (cBin gShr (cVar 2) (cBin gAdd (cBin gMul (cK (.int 5)) (cVar 13)) (cVar 14))) (cK (.int 1))) (cK (.int 1))) (cBin (gInT false) (cTup (cArgs [cVar 13, cVar 14])) (cTup (cArgs [cTup (cArgs [cK (.int 0), cK (.int 0)]), cTup (cArgs [cK (.int 1), cK (.int 1)])])))) kStill [some S, some (.int (dgt : Nat)), some (.int (c : Nat)), some (.int (N : Nat)), none, none, none, none, none, none, none, none, none, some (nD i), none] [] [] = .ok (.lst ((List.range N).map fun j => D.bl (s i j))) [] := fun i hi => by
        have cf := comp_all (k := 14) (env := [some S, some (.int (dgt : Nat)), some (.int (c : Nat)), some (.int (N : Nat)), none, none, none, none, none, none, none, none, none, some (nD i), none]) (ro := []) (w := []) (fa := cOr (cBin gEq (cBin gBand (cBin gShr (cVar 2) (cBin gAdd (cBin gMul (cK (.int 5)) (cVar 13)) (cVar 14))) (cK (.int 1))) (cK (.int 1))) (cBin (gInT false) (cTup (cArgs [cVar 13, cVar 14])) (cTup (cArgs [cTup (cArgs [cK (.int 0), cK (.int 0)]), cTup (cArgs [cK (.int 1), cK (.int 1)])])))) (h := nD) (g := fun j => D.bl (s i j)) (l := List.range N) fun j hj => by
          have hj := List.mem_range.mp hj
          have mu : ∀ w, gMul (.int 5) (.int (i : Nat)) [] w = .ok (.int ((5 * i : Nat) : Int)) w := fun w => by
            rw [mul_int, if_pos (.inl (by decide))]
            congr 2
          have ad : ∀ w, gAdd (.int ((5 * i : Nat) : Int)) (.int (j : Nat)) [] w = .ok (.int ((5 * i + j : Nat) : Int)) w := fun w => by
            rw [add_int]
            congr 2
          have sh : ∀ w, gShr (.int (c : Nat)) (.int ((5 * i + j : Nat) : Int)) [] w = .ok (.int ((c : Int) / 2 ^ (5 * i + j))) w := fun w => shr_nat
          have i01 : ∀ w, gInT false (.tup [.int (i : Nat), .int (j : Nat)]) (.tup [.tup [.int 0, .int 0], .tup [.int 1, .int 1]]) [] w = .ok (.bl (decide (i = 0 ∧ j = 0 ∨ i = 1 ∧ j = 1))) w := fun w => in01 (by omega) (by omega)
          have st2 : ∀ w, see [] w (.tup [.int (i : Nat), .int (j : Nat)]) = .tup [.int (i : Nat), .int (j : Nat)] := fun _ => rfl
          have st3 : ∀ w, see [] w (.tup [.tup [.int 0, .int 0], .tup [.int 1, .int 1]]) = .tup [.tup [.int 0, .int 0], .tup [.int 1, .int 1]] := fun _ => rfl
          have q1 : cBin gEq (cBin gBand (cBin gShr (cVar 2) (cBin gAdd (cBin gMul (cK (.int 5)) (cVar 13)) (cVar 14))) (cK (.int 1))) (cK (.int 1)) [some S, some (.int (dgt : Nat)), some (.int (c : Nat)), some (.int (N : Nat)), none, none, none, none, none, none, none, none, none, some (nD i), some (nD j)] [] [] = .ok (.bl (decide (Builtin.bitAnd ((c : Int) / 2 ^ (5 * i + j)) 1 = 1))) [] := by
            simp only [x_bin, x_k, x_var, List.getElem?_cons_zero, List.getElem?_cons_succ, ofO_ss, an_ok, see_int, mu, ad, sh, band_int, eq_int]
          have q2 : cBin (gInT false) (cTup (cArgs [cVar 13, cVar 14])) (cTup (cArgs [cTup (cArgs [cK (.int 0), cK (.int 0)]), cTup (cArgs [cK (.int 1), cK (.int 1)])])) [some S, some (.int (dgt : Nat)), some (.int (c : Nat)), some (.int (N : Nat)), none, none, none, none, none, none, none, none, none, some (nD i), some (nD j)] [] [] = .ok (.bl (decide (i = 0 ∧ j = 0 ∨ i = 1 ∧ j = 1))) [] := by
            simp only [x_bin, x_tup, x_args, x_args0, x_k, x_var, List.getElem?_cons_zero, List.getElem?_cons_succ, ofO_ss, an_ok, st2, st3, i01]
          simp only [List.set_cons_succ, List.set_cons_zero]
          rw [x_or, q1, an_ok, orV_bl]
          have hsij : s i j = (decide (Builtin.bitAnd ((c : Int) / 2 ^ (5 * i + j)) 1 = 1) || decide (i = 0 ∧ j = 0 ∨ i = 1 ∧ j = 1)) := by rw [← hs0]
          by_cases q : decide (Builtin.bitAnd ((c : Int) / 2 ^ (5 * i + j)) 1 = 1) = true
          · rw [if_pos q, hsij, q]
            rfl
          · have q' : decide (Builtin.bitAnd ((c : Int) / 2 ^ (5 * i + j)) 1 = 1) = false := by simpa using q
            rw [if_neg q, q2, hsij, q']
            rfl
        rw [x_comp, rng, an_ok, if_pos (by rw [List.length_map, List.length_range]; omega)]
        rw [show wipeE [some S, some (.int (dgt : Nat)), some (.int (c : Nat)), some (.int (N : Nat)), none, none, none, none, none, none, none, none, none, some (nD i), none] [14] = [some S, some (.int (dgt : Nat)), some (.int (c : Nat)), some (.int (N : Nat)), none, none, none, none, none, none, none, none, none, some (nD i), none] from rfl, cf, an_ok, x_still]
      have cf := comp_all (k := 13) (env := [some S, some (.int (dgt : Nat)), some (.int (c : Nat)), some (.int (N : Nat)), none, none, none, none, none, none, none, none, none, none, none]) (ro := []) (w := []) (fa := cComp (.nm 14) [14] (cRng1 (cArgs [cVar 3])) (cYes) (cOr (cBin gEq (cBin gBand (cBin gShr (cVar 2) (cBin gAdd (cBin gMul (cK (.int 5)) (cVar 13)) (cVar 14))) (cK (.int 1))) (cK (.int 1))) (cBin (gInT false) (cTup (cArgs [cVar 13, cVar 14])) (cTup (cArgs [cTup (cArgs [cK (.int 0), cK (.int 0)]), cTup (cArgs [cK (.int 1), cK (.int 1)])])))) kStill) (h := nD) (g := fun i => .lst ((List.range N).map fun j => D.bl (s i j))) (l := List.range N) fun i hi => by
        exact inner i (List.mem_range.mp hi)
      rw [x_comp, rng, an_ok, if_pos (by rw [List.length_map, List.length_range]; omega)]
      rw [show wipeE [some S, some (.int (dgt : Nat)), some (.int (c : Nat)), some (.int (N : Nat)), none, none, none, none, none, none, none, none, none, none, none] [13] = [some S, some (.int (dgt : Nat)), some (.int (c : Nat)), some (.int (N : Nat)), none, none, none, none, none, none, none, none, none, none, none] from rfl, cf, an_ok, x_still]
      rfl
    rw [x_seq, x_set, grid, st_ok, oan_nx]
    simp only [List.set_cons_succ, List.set_cons_zero]
    have ep := e_pairs (A := Am N s) (n := 59) (show N < 25 by omega) (ro := []) (w := []) (by decide)
    rw [hpr] at ep
    have ssn : ∀ w, see [] w (seenD (Am N s)) = seenD (Am N s) := fun _ => rfl
    generalize hsn : seenD (Am N s) = seen at ep ssn
    rw [x_seq, x_set]
    simp only [x_call, x_args, x_args0, x_var, List.getElem?_cons_zero, List.getElem?_cons_succ, ofO_ss, an_ok, List.length_cons, List.length_nil, Nat.zero_add, if_true, ep, st_ok, oan_nx, List.set_cons_succ, List.set_cons_zero]
    have dv : cDisp [((cK (.str "p")), (cLst (cArgs [cK (.int 0), cK (.int 1)]))), ((cK (.str "q")), (cLst (cArgs [cBin gSub (cVar 3) (cK (.int 1))])))] [some S, some (.int (dgt : Nat)), some (.int (c : Nat)), some (.int (N : Nat)), some seen, some pr, none, none, none, none, none, none, none, none, none] [] [] = .ok (vD V) [] := by
      have sb : ∀ w, gSub (.int (N : Nat)) (.int 1) [] w = .ok (.int ((N - 1 : Nat) : Int)) w := fun w => by
        rw [sub_int]
        congr 2
        omega
      have z : cDisp [((cK (.str "p")), (cLst (cArgs [cK (.int 0), cK (.int 1)]))), ((cK (.str "q")), (cLst (cArgs [cBin gSub (cVar 3) (cK (.int 1))])))] [some S, some (.int (dgt : Nat)), some (.int (c : Nat)), some (.int (N : Nat)), some seen, some pr, none, none, none, none, none, none, none, none, none] [] [] = .ok (.dic [.str "p", .str "q"] [.lst [.int 0, .int 1], .lst [.int ((N : Int) - 1)]]) [] := by rfl
      rw [z]
      have e : ((N : Int) - 1) = ((N - 1 : Nat) : Int) := by omega
      rw [e]
      rfl
    rw [x_seq, x_set, x_call, x_args]
    simp only [x_args, x_args0, x_var, List.getElem?_cons_zero, List.getElem?_cons_succ, ofO_ss, an_ok, dv, List.length_cons, List.length_nil, Nat.zero_add, Nat.reduceAdd, if_true, lt', st_ok, oan_nx, List.set_cons_succ, List.set_cons_zero]
    rw [x_seq, x_expr]
    simp only [x_call, x_args, x_args0, x_var, List.getElem?_cons_zero, List.getElem?_cons_succ, ofO_ss, an_ok, List.length_cons, List.length_nil, Nat.zero_add, if_true, rd0, st_ok, oan_nx]
    have hsz : sizeLine = 16777216 := rfl
    have lg : ∀ w, gLen (.str X) [] w = .ok (.int (X.length : Nat)) w := fun w => len_X (by omega)
    have sb : ∀ w, gSub (.int (X.length : Nat)) (.int 1) [] w = .ok (.int ((X.length - 1 : Nat) : Int)) w := fun w => by
      rw [sub_int]
      congr 2
      omega
    have sl := fun w => sl_to (X := X) (by omega) (b := X.length - 1) (by omega) (ro := []) (w := w)
    have tk : mkS ((cp X).take (X.length - 1)) = mkS (TL.joinL [10] ((L0 N s).map lnC)) := by
      rw [lX, Nat.add_sub_cancel, ← hX, cp_mk, mtx_join2 _ hz, List.take_left' rfl]
    have cs : ∀ e7 e8 e9 : Option D, cStr gSplitM (cSl (cVar 6) (cNoPart) (cPart (cBin gSub (cCall (one gLen) (cArgs [cVar 6])) (cK (.int 1))))) (cArgs [cK (.str "\n")]) [some S, some (.int (dgt : Nat)), some (.int (c : Nat)), some (.int (N : Nat)), some seen, some pr, some (.str X), e7, e8, e9, none, none, none, none, none] [] [] = .ok (.ref 0) [lnsD (L0 N s)] := fun e7 e8 e9 => by
      have a : cSl (cVar 6) (cNoPart) (cPart (cBin gSub (cCall (one gLen) (cArgs [cVar 6])) (cK (.int 1)))) [some S, some (.int (dgt : Nat)), some (.int (c : Nat)), some (.int (N : Nat)), some seen, some pr, some (.str X), e7, e8, e9, none, none, none, none, none] [] [] = .ok (.str (mkS (TL.joinL [10] ((L0 N s).map lnC)))) [] := by
        simp only [x_sl, x_noPart, x_part, x_bin, x_call, x_args, x_args0, x_one, x_k, x_var, List.getElem?_cons_zero, List.getElem?_cons_succ, ofO_ss, an_ok, see_str, lg, see_int, sb, partV_int, sl, tk]
      have e1 : ("\n" : Str).length = 1 := by decide
      rw [x_str a, x_args, x_k, an_ok, x_args0, an_ok, an_ok]
      show (if (("\n" : Str).length == 0) = false ∧ (mkS (TL.joinL [10] ((L0 N s).map lnC))).length + 2 ≤ sizeLine then Out.ok (D.ref ([] ++ ([] : List D)).length) ([] ++ [.lst ((Txt.split (mkS (TL.joinL [10] ((L0 N s).map lnC))) "\n").map .str)]) else .no) = _
      rw [if_pos ⟨by decide, by rw [mk_len]; omega⟩, spl, List.map_map, List.map_map]
      rfl
    rw [x_seq, x_set, cs, st_ok, oan_nx]
    simp only [List.set_cons_succ, List.set_cons_zero]
    have mo := fun (a m : Nat) (hm : 0 < m ∧ m < 1000) w => mod_ok (a := a) (m := m) hm (w := w)
    have d4 : ∀ w, gDiv (.int (dgt : Nat)) (.int 4) [] w = .ok (.int ((dgt / 4 : Nat) : Int)) w := fun w => by
      rw [div_int, if_pos (by decide)]
      congr 2
    have d36 : ∀ w, gDiv (.int (dgt : Nat)) (.int 36) [] w = .ok (.int ((dgt / 36 : Nat) : Int)) w := fun w => by
      rw [div_int, if_pos (by decide)]
      congr 2
    have m9 : ∀ w, gMod (.int ((dgt / 4 : Nat) : Int)) (.int 9) [] w = .ok (.int ((dgt / 4 % 9 : Nat) : Int)) w := mo _ 9 (by decide)
    have mL : ∀ w, gMod (.int ((dgt / 36 : Nat) : Int)) (.int ((L0 N s).length : Nat)) [] w = .ok (.int ((dgt / 36 % (L0 N s).length : Nat) : Int)) w := mo _ _ (by omega)
    have sl7 : see [] [lnsD (L0 N s)] (.ref 0) = lnsD (L0 N s) := rfl
    rw [x_seq, x_set]
    simp only [x_bin, x_k, x_var, List.getElem?_cons_zero, List.getElem?_cons_succ, ofO_ss, an_ok, see_int, d4, m9, st_ok, oan_nx, List.set_cons_succ, List.set_cons_zero]
    rw [x_seq, x_set]
    simp only [x_bin, x_call, x_args, x_args0, x_one, x_k, x_var, List.getElem?_cons_zero, List.getElem?_cons_succ, ofO_ss, an_ok, see_int, d36, sl7, len_ln, mL, st_ok, oan_nx, List.set_cons_succ, List.set_cons_zero]
    obtain ⟨env', w', h⟩ := chain_ok (S := S) (seen := seen) (pr := pr) (dgt := dgt) (c := c) (way := dgt / 4 % 9) (spot := dgt / 36 % (L0 N s).length) B (Nat.mod_lt _ (by decide)) (Nat.mod_lt _ (by omega))
    rw [hX] at h
    exact ⟨w', (congrArg OS.fin h).trans rfl⟩
  obtain ⟨w', rr⟩ := run
  refine ⟨w', ?_⟩
  rw [q_law, x_def]
  simp only [List.length_cons, List.length_nil, Nat.zero_add, Nat.reduceAdd, if_true, List.map_cons, List.map_nil, Nat.reduceSub, List.replicate, List.cons_append, List.nil_append]
  exact rr
end K
open PySem PySem.W PyProof.Rows
set_option maxHeartbeats 0 in
theorem PySem.Challenge.cw_elsewhere_k84_faulty_texts_of_models_holds : PySem.Challenge.rw_elsewhere_k84_faulty_texts_of_models.Holds := by
  w_on; o_law; k_head; (case hw => w_witness2)
  k_fill
  refine Fx.law_end (l := PySem.Challenge.rw_elsewhere_k84_faulty_texts_of_models) (N := 60) (x := "_law_script") (g := K.ev 60 .f_law) rfl rfl ⟨rfl, by decide, by decide⟩ (fun w h Y => PySem.W.kIn_of Y) ?F K.law_true
  case F =>
    intro w mg fa h KX G hmg
    refine' K.fin_ok (K.ad_mk KX G hmg ?ka0 ?kb0 ?kc0 ?kd0 ?ke0 ?kf0 ?kg0 ?kh0_0 ?kh0_1 ?kh0_2 ?a0 ?l0 ?c0 ?k0 ?a1 ?l1 ?c1 ?k1 ?a2 ?l2 ?c2 ?k2 ?a3 ?l3 ?c3 ?k3 ?a4 ?l4 ?c4 ?k4 ?a5 ?l5 ?c5 ?k5 ?a6 ?l6 ?c6 ?k6 ?a7 ?l7 ?c7 ?k7 ?a8 ?l8 ?c8 ?k8 ?a9 ?l9 ?c9 ?k9 ?a10 ?l10 ?c10 ?k10 ?a11 ?i11 ?l11 ?c11 ?k11 ?a12 ?i12 ?l12 ?c12 ?k12 ?a13 ?i13 ?l13 ?c13 ?k13 ?z0 ?z1 ?z2 ?z3 ?z4 ?z5 ?z6 ?z7 ?z8 ?z9 ?z10 ?z11 ?cg0 ?cg1 ?cg2 ?xa0 ?xb0 ?xc0 ?xd0 ?xe0 ?xf0 ?xg0 ?xh0 ?xi0 ?xj0 ?xk0 ?xl0 ?xa1 ?xb1 ?xc1 ?xd1 ?xe1 ?xf1 ?xg1 ?xh1 ?xi1 ?xj1 ?xk1 ?xl1 ?xa2 ?xd2 ?xe2 ?xh2 ?xm0_1 ?xo0_1 ?xm0_2 ?xo0_2 ?xm0_0 ?xo0_0 ?xm1_1 ?xo1_1 ?xm1_2 ?xo1_2 ?xm1_0 ?xo1_0)
    (case ka0 => k_is)
    (case kb0 => k_is)
    (case kc0 => k_is)
    (case kd0 => k_is)
    (case ke0 => k_is)
    (case kf0 => k_is)
    (case kg0 => k_is)
    (case kh0_0 => k_is)
    (case kh0_1 => k_is)
    (case kh0_2 => k_is)
    (case a0 => k_is)
    (case l0 => k_is)
    (case c0 => k_is)
    (case k0 => k_is)
    (case a1 => k_is)
    (case l1 => k_is)
    (case c1 => k_is)
    (case k1 => k_is)
    (case a2 => k_is)
    (case l2 => k_is)
    (case c2 => k_is)
    (case k2 => k_is)
    (case a3 => k_is)
    (case l3 => k_is)
    (case c3 => k_is)
    (case k3 => k_is)
    (case a4 => k_is)
    (case l4 => k_is)
    (case c4 => k_is)
    (case k4 => k_is)
    (case a5 => k_is)
    (case l5 => k_is)
    (case c5 => k_is)
    (case k5 => k_is)
    (case a6 => k_is)
    (case l6 => k_is)
    (case c6 => k_is)
    (case k6 => k_is)
    (case a7 => k_is)
    (case l7 => k_is)
    (case c7 => k_is)
    (case k7 => k_is)
    (case a8 => k_is)
    (case l8 => k_is)
    (case c8 => k_is)
    (case k8 => k_is)
    (case a9 => k_is)
    (case l9 => k_is)
    (case c9 => k_is)
    (case k9 => k_is)
    (case a10 => k_is)
    (case l10 => k_is)
    (case c10 => k_is)
    (case k10 => k_is)
    (case a11 => k_is)
    (case i11 => k_is)
    (case l11 => k_is)
    (case c11 => k_is)
    (case k11 => k_is)
    (case a12 => k_is)
    (case i12 => k_is)
    (case l12 => k_is)
    (case c12 => k_is)
    (case k12 => k_is)
    (case a13 => k_is)
    (case i13 => k_is)
    (case l13 => k_is)
    (case c13 => k_is)
    (case k13 => k_is)
    (case z0 => k_is)
    (case z1 => k_is)
    (case z2 => k_is)
    (case z3 => k_is)
    (case z4 => k_is)
    (case z5 => k_is)
    (case z6 => k_is)
    (case z7 => k_is)
    (case z8 => k_is)
    (case z9 => k_is)
    (case z10 => k_is)
    (case z11 => k_is)
    (case cg0 => k_is)
    (case cg1 => k_is)
    (case cg2 => k_is)
    (case xa0 => k_is)
    (case xb0 => k_exc)
    (case xc0 => k_is)
    (case xd0 => k_is)
    (case xe0 => k_is)
    (case xf0 => k_is)
    (case xg0 => k_is)
    (case xh0 => k_is)
    (case xi0 => k_is)
    (case xj0 => k_is)
    (case xk0 => k_is)
    (case xl0 => k_is)
    (case xa1 => k_is)
    (case xb1 => k_exc)
    (case xc1 => k_is)
    (case xd1 => k_is)
    (case xe1 => k_is)
    (case xf1 => k_is)
    (case xg1 => k_is)
    (case xh1 => k_is)
    (case xi1 => k_is)
    (case xj1 => k_is)
    (case xk1 => k_is)
    (case xl1 => k_is)
    (case xa2 => k_is)
    (case xd2 => k_is)
    (case xe2 => k_is)
    (case xh2 => k_is)
    (case xm0_1 => k_is)
    (case xo0_1 => rfl)
    (case xm0_2 => k_is)
    (case xo0_2 => rfl)
    (case xm0_0 => k_is)
    (case xo0_0 => rfl)
    (case xm1_1 => k_is)
    (case xo1_1 => rfl)
    (case xm1_2 => k_is)
    (case xo1_2 => rfl)
    (case xm1_0 => k_is)
    (case xo1_0 => rfl)
