import PyProof.Rows.All
import Wide.All
import OpenK.AllK
import Wide.FinOn
import HandS.ForMost
import HandS.Exc
import HandS.ExcOwn
import HandS.WordsExc
import HandS.CallSlots
import KE.KeyNested
import HandS.TupAny
import HandS.Deep
import HandS.IsInst
import HandS.WordsDict
import HandS.SortKw
import KE.DataMinMax
import HandS.CallLocal
import HandS.Dict
import HandS.Sort
import HandS.TryElse
import HandS.ExcIs
import KE.KEqDict
import HandS.Iter
import PyProof.DictRoadsH
import KE.SortCalls
import KE.KDictCopyH
import KE.KDictSum
import HandS.Text
import HandS.More
import KE.GoesMore
import HandS.Zip
import KE.KRevSl
import HandS.SetFor
import HandS.Strs
import HandS.TupSets
import HandS.DictComp
import KE.KDictKeyed
import HandS.TryMany
import HandS.SetBool
import HandS.TupLe
import HandS.WrittenGet
import PySem.Challenge.RW_elsewhere_k39_joined_derivations
set_option Elab.async false
set_option linter.all false
set_option maxRecDepth 100000
/-! The layer of plain data: what an expression, a statement, a def does, told by functions on trees. -/
namespace Fx
open PySem PySem.Spec L2

/-- a value as a tree; `ref n` is the n-th object that may still change; lists, dicts, instances within a tree stand still -/
inductive D where
  | non | bl (b : Bool) | int (i : Int) | str (x : Str)
  | tup (xs : List D) | lst (xs : List D)
  | dic (ks xs : List D)
  | dct (ks xs : List D)
  | ins (c : Str) (ns : List Str) (xs : List D)
  | fn (x : Str) | ref (n : Nat) | rng (n : Nat)
  deriving Inhabited

def keyOf : D → Option Key
  | .int i => some (.inl i)
  | .str x => some (.inr x)
  | _ => none

mutual
/-- a tuple of texts, numbers and such tuples as a key -/
def toKey : D → Option NestedKey
  | .int i => some (.num i)
  | .str x => some (.text x)
  | .tup ds => (toKeys ds).map .tup
  | _ => none
def toKeys : List D → Option (List NestedKey)
  | [] => some []
  | d :: ds => match toKey d, toKeys ds with
    | some k, some ks => some (k :: ks)
    | _, _ => none
end
/-- a dict whose keys are tuples: its entries -/
def DNo (a : Addr) (es : List DictEntry) (ep : Nat) : HO := .ext fun h => ∃ o, h.get? a = some o ∧ o.ExactDict ∧ o.data = .dict es.toArray ep ∧ es.length ≤ sizeLine ∧ (a == sysModules) = false
/-- range(n) as a thing -/
def RngO (a : Addr) (n : Nat) : HO := .ext fun h => ∃ t u v, IsRange h a 0 n 1 t u v
/-- entries, keys, where the keys stand, values -/
inductive DEnts (w : World) : List DictEntry → List D → List Addr → List V → Prop
  | nil : DEnts w [] [] [] []
  | cons {e : DictEntry} {k : D} {κ : List NestedKey} {a : Addr} {v : V} {es : List DictEntry} {ks : List D} {as : List Addr} {vs : List V} : toKey k = some (.tup κ) → (NestedKey.tup κ).depth ≤ 8 → e.hash = (NestedKey.tup κ).hash w → e.key = .ref a → RelV v e.val → DEnts w es ks as vs → DEnts w (e :: es) (k :: ks) (a :: as) (v :: vs)
/-- a tuple, a list that stands still: tracked and not among the changing ones, or written -/
def KT (K : PySem.W.Frag) (a : Addr) (xs : List V) : Prop := ∃ (o : Obj) (its : Array Value) (n : Nat), K.lookup a = some o ∧ o.cls = .type "tuple" ∧ o.data = .seq its n ∧ its.size ≤ sizeLine ∧ Vals xs its.toList
/-- where the changing objects stand: those that have a number, those that are hidden just now -/
structure Zn where
  r : List Addr
  h : List Addr
def Zn.Out (ρ : Zn) (a : Addr) : Prop := a ∉ ρ.r ∧ a ∉ ρ.h
def KL (K : PySem.W.Frag) (a : Addr) (xs : List V) : Prop := ∃ (o : Obj) (its : Array Value) (n : Nat), K.lookup a = some o ∧ o.cls = .type "list" ∧ o.dict = none ∧ o.data = .seq its n ∧ its.size ≤ sizeLine ∧ Vals xs its.toList
def Still (ρ : Zn) (H : Hp) (a : Addr) (u : HO) : Prop := ρ.Out a ∧ Rd H a u

structure Cfg where
  K : PySem.W.Frag
  mg : Str → Option Value
  w : World

mutual
def Rep (C : Cfg) (ρ : Zn) (H : Hp) : D → V → Prop
  | .non, v => v = .non
  | .bl b, v => v = .bl b
  | .int i, v => v = .int i
  | .str x, v => v = .str x
  | .fn x, v => ∃ a, C.mg x = some (.ref a) ∧ v = .ref a
  | .ref n, v => ∃ a, ρ.r[n]? = some a ∧ v = .ref a
  | .rng n, v => ∃ a, v = .ref a ∧ Still ρ H a (RngO a n)
  | .tup ds, v => ∃ a vs, v = .ref a ∧ (Still ρ H a (.tup vs) ∨ KT C.K a vs) ∧ Reps C ρ H ds vs
  | .lst ds, v => ∃ a vs, v = .ref a ∧ (Still ρ H a (.lst vs) ∨ KL C.K a vs) ∧ Reps C ρ H ds vs
  | .dic ks ds, v => ∃ a kvs, v = .ref a ∧ Still ρ H a (.dK kvs) ∧ ks.map keyOf = kvs.map (fun p => some p.1) ∧ Reps C ρ H ds (kvs.map (·.2))
  | .dct ks ds, v => ∃ a es ep as vs, v = .ref a ∧ Still ρ H a (DNo a es ep) ∧ DEnts C.w es ks as vs ∧ (ks.map toKey).Nodup ∧ Reps C ρ H ks (as.map .ref) ∧ Reps C ρ H ds vs
  | .ins c ns ds, v => ∃ a A dx fs, v = .ref a ∧ C.mg c = some (.ref A) ∧ ρ.Out a ∧ H a = some (.ins A dx fs) ∧ ns = fs.map (·.1) ∧ Reps C ρ H ds (fs.map (·.2))
def Reps (C : Cfg) (ρ : Zn) (H : Hp) : List D → List V → Prop
  | [], vs => vs = []
  | d :: ds, vs => ∃ v r, vs = v :: r ∧ Rep C ρ H d v ∧ Reps C ρ H ds r
end

/-- an object that may change -/
def RepO (C : Cfg) (ρ : Zn) (H : Hp) : D → Addr → Prop
  | .lst ds, a => ∃ vs, H a = some (.lst vs) ∧ Reps C ρ H ds vs
  | .dic ks ds, a => ∃ kvs, H a = some (.dK kvs) ∧ ks.map keyOf = kvs.map (fun p => some p.1) ∧ Reps C ρ H ds (kvs.map (·.2))
  | .dct ks ds, a => ∃ es ep as vs, H a = some (DNo a es ep) ∧ DEnts C.w es ks as vs ∧ (ks.map toKey).Nodup ∧ Reps C ρ H ks (as.map .ref) ∧ Reps C ρ H ds vs
  | .ins c ns ds, a => ∃ A dx fs, C.mg c = some (.ref A) ∧ H a = some (.ins A dx fs) ∧ ns = fs.map (·.1) ∧ Reps C ρ H ds (fs.map (·.2))
  | _, _ => False

structure RepS (C : Cfg) (ρ : Zn) (H : Hp) (w : List D) : Prop where
  len : ρ.r.length = w.length
  nd : ρ.r.Nodup
  obj : ∀ (i : Nat) a d, ρ.r[i]? = some a → w[i]? = some d → RepO C ρ H d a
  hid : ∀ a ∈ ρ.h, a ∉ ρ.r ∧ ∃ o, H a = some o

abbrev Env := List (Option D)
structure RepE (C : Cfg) (ρ : Zn) (H : Hp) (env : Env) (σ : St) : Prop where
  len : env.length = σ.length
  at' : ∀ (i : Nat) d, env[i]? = some (some d) → ∃ v, σ[i]? = some (some v) ∧ Rep C ρ H d v

structure ExtR (ρ ρ' : Zn) (H H' : Hp) : Prop where
  pre : ∃ ν, ρ'.r = ρ.r ++ ν
  keep : ∀ a o, H a = some o → ρ.Out a → H' a = some o ∧ ρ'.Out a
structure Ext (ρ ρ' : Zn) (H H' : Hp) : Prop where
  pre : ∃ ν, ρ'.r = ρ.r ++ ν
  hid : ρ'.h = ρ.h
  keep : ∀ a o, H a = some o → ρ.Out a → H' a = some o ∧ ρ'.Out a
  same : ∀ a ∈ ρ.h, H' a = H a
theorem Ext.r {ρ ρ' : Zn} {H H' : Hp} (x : Ext ρ ρ' H H') : ExtR ρ ρ' H H' := ⟨x.pre, x.keep⟩

theorem Ext.refl {ρ : Zn} {H : Hp} : Ext ρ ρ H H := ⟨⟨[], by simp⟩, rfl, fun _ _ e n => ⟨e, n⟩, fun _ _ => rfl⟩
theorem Ext.trans {ρ ρ1 ρ2 : Zn} {H H1 H2 : Hp} (a : Ext ρ ρ1 H H1) (b : Ext ρ1 ρ2 H1 H2) : Ext ρ ρ2 H H2 := by
  obtain ⟨⟨ν, e1⟩, ha, ka, sa⟩ := a
  obtain ⟨⟨μ, e2⟩, hb, kb, sb⟩ := b
  refine ⟨⟨ν ++ μ, by rw [e2, e1, List.append_assoc]⟩, hb.trans ha, fun c o e n => ?_, fun c hc => (sb c (by rw [ha]; exact hc)).trans (sa c hc)⟩
  obtain ⟨e1, n1⟩ := ka c o e n
  exact kb c o e1 n1
theorem ExtR.ref {ρ ρ' : Zn} {H H' : Hp} (x : ExtR ρ ρ' H H') {n : Nat} {a : Addr} (h : ρ.r[n]? = some a) : ρ'.r[n]? = some a := by
  obtain ⟨⟨ν, e⟩, _⟩ := x
  have hl := (List.getElem?_eq_some_iff.mp h).1
  rw [e, List.getElem?_append_left hl]
  exact h
theorem Still.extR {ρ ρ' : Zn} {H H' : Hp} {a : Addr} {u : HO} (x : ExtR ρ ρ' H H') (h : Still ρ H a u) : Still ρ' H' a u := by
  obtain ⟨n, h | ⟨o, h⟩⟩ := h
  · obtain ⟨e, n'⟩ := x.keep _ _ h n
    exact ⟨n', .inl e⟩
  · obtain ⟨e, n'⟩ := x.keep _ _ h n
    exact ⟨n', .inr ⟨o, e⟩⟩

section
variable {C : Cfg} {ρ ρ' : Zn} {H H' : Hp}
mutual
theorem Rep.extR (x : ExtR ρ ρ' H H') : ∀ (d : D) {v : V}, Rep C ρ H d v → Rep C ρ' H' d v
  | .non, v, h => h
  | .bl b, v, h => h
  | .int i, v, h => h
  | .str i, v, h => h
  | .fn i, v, h => h
  | .rng n, v, ⟨a, e, h⟩ => ⟨a, e, Still.extR x h⟩
  | .ref n, v, ⟨a, h, e⟩ => ⟨a, x.ref h, e⟩
  | .tup ds, v, ⟨a, vs, e, h, r⟩ => ⟨a, vs, e, h.imp (Still.extR x) id, Reps.extR x ds r⟩
  | .lst ds, v, ⟨a, vs, e, h, r⟩ => ⟨a, vs, e, h.imp (Still.extR x) id, Reps.extR x ds r⟩
  | .dic ks ds, v, ⟨a, kvs, e, h, k, r⟩ => ⟨a, kvs, e, Still.extR x h, k, Reps.extR x ds r⟩
  | .dct ks ds, v, ⟨a, es, ep, as, vs, e, h, en, nd, rk, r⟩ => ⟨a, es, ep, as, vs, e, Still.extR x h, en, nd, Reps.extR x ks rk, Reps.extR x ds r⟩
  | .ins c ns ds, v, ⟨a, A, dx, fs, e, m, n, h, k, r⟩ => ⟨a, A, dx, fs, e, m, (x.keep _ _ h n).2, (x.keep _ _ h n).1, k, Reps.extR x ds r⟩
theorem Reps.extR (x : ExtR ρ ρ' H H') : ∀ (ds : List D) {vs : List V}, Reps C ρ H ds vs → Reps C ρ' H' ds vs
  | [], vs, h => h
  | d :: ds, vs, ⟨v, r, e, h1, h2⟩ => ⟨v, r, e, Rep.extR x d h1, Reps.extR x ds h2⟩
end
theorem Still.ext {a : Addr} {u : HO} (x : Ext ρ ρ' H H') (h : Still ρ H a u) : Still ρ' H' a u := h.extR x.r
theorem Rep.ext (x : Ext ρ ρ' H H') (d : D) {v : V} (h : Rep C ρ H d v) : Rep C ρ' H' d v := Rep.extR x.r d h
theorem Reps.ext (x : Ext ρ ρ' H H') (ds : List D) {vs : List V} (h : Reps C ρ H ds vs) : Reps C ρ' H' ds vs := Reps.extR x.r ds h
theorem RepE.extR {env : Env} {σ : St} (x : ExtR ρ ρ' H H') (h : RepE C ρ H env σ) : RepE C ρ' H' env σ := ⟨h.len, fun i d e => by
  obtain ⟨v, h1, h2⟩ := h.at' i d e
  exact ⟨v, h1, Rep.extR x d h2⟩⟩
theorem RepE.ext {env : Env} {σ : St} (x : Ext ρ ρ' H H') (h : RepE C ρ H env σ) : RepE C ρ' H' env σ := ⟨h.len, fun i d e => by
  obtain ⟨v, h1, h2⟩ := h.at' i d e
  exact ⟨v, h1, Rep.ext x d h2⟩⟩
theorem Reps.len : ∀ {ds : List D} {vs : List V}, Reps C ρ H ds vs → ds.length = vs.length
  | [], _, h => by
    have e : _ = [] := h
    rw [e]
    rfl
  | _ :: ds, _, ⟨v, r, e, _, h⟩ => by
    rw [e, List.length_cons, List.length_cons, Reps.len h]
theorem Reps.get : ∀ {ds : List D} {vs : List V} {i : Nat} {d : D}, Reps C ρ H ds vs → ds[i]? = some d → ∃ v, vs[i]? = some v ∧ Rep C ρ H d v
  | [], _, _, _, _, e => by simp at e
  | d :: ds, _, 0, d', ⟨v, r, e, h1, _⟩, q => by
    simp only [List.getElem?_cons_zero, Option.some.injEq] at q
    subst q
    subst e
    exact ⟨v, rfl, h1⟩
  | d :: ds, _, i + 1, d', ⟨v, r, e, _, h2⟩, q => by
    subst e
    exact Reps.get (i := i) h2 (by simpa using q)
theorem Reps.none : ∀ {ds : List D} {vs : List V} {i : Nat}, Reps C ρ H ds vs → ds[i]? = none → vs[i]? = none := fun {ds vs i} h e => by
  have h1 := h.len
  have h2 : ds.length ≤ i := List.getElem?_eq_none_iff.mp e
  exact List.getElem?_eq_none_iff.mpr (by omega)
theorem Reps.append : ∀ {ds es : List D} {vs us : List V}, Reps C ρ H ds vs → Reps C ρ H es us → Reps C ρ H (ds ++ es) (vs ++ us)
  | [], _, vs, us, h, h' => by
    have e : vs = [] := h
    subst e
    exact h'
  | d :: ds, _, _, _, ⟨v, r, e, h1, h2⟩, h' => by
    subst e
    exact ⟨v, _, rfl, h1, Reps.append h2 h'⟩
theorem Reps.nil : Reps C ρ H [] [] := rfl
theorem Reps.one {d : D} {v : V} (h : Rep C ρ H d v) : Reps C ρ H [d] [v] := ⟨v, [], rfl, h, rfl⟩
theorem Reps.take : ∀ {ds : List D} {vs : List V} (n : Nat), Reps C ρ H ds vs → Reps C ρ H (ds.take n) (vs.take n)
  | ds, vs, 0, _ => by simp [Reps]
  | [], vs, n + 1, h => by
    have e : vs = [] := h
    subst e
    exact rfl
  | d :: ds, _, n + 1, ⟨v, r, e, h1, h2⟩ => by
    subst e
    exact ⟨v, r.take n, rfl, h1, Reps.take n h2⟩
theorem Reps.drop : ∀ {ds : List D} {vs : List V} (n : Nat), Reps C ρ H ds vs → Reps C ρ H (ds.drop n) (vs.drop n)
  | ds, vs, 0, h => h
  | [], vs, n + 1, h => by
    have e : vs = [] := h
    subst e
    exact rfl
  | d :: ds, _, n + 1, ⟨v, r, e, _, h2⟩ => by
    subst e
    exact Reps.drop n h2
theorem Reps.set {d : D} {v : V} (hd : Rep C ρ H d v) : ∀ {ds : List D} {vs : List V} (i : Nat), Reps C ρ H ds vs → Reps C ρ H (ds.set i d) (vs.set i v)
  | [], vs, i, h => by
    have e : vs = [] := h
    subst e
    exact rfl
  | d' :: ds, _, 0, ⟨v', r, e, _, h2⟩ => by
    subst e
    exact ⟨v, r, rfl, hd, h2⟩
  | d' :: ds, _, i + 1, ⟨v', r, e, h1, h2⟩ => by
    subst e
    exact ⟨v', r.set i v, rfl, h1, Reps.set hd i h2⟩
theorem Reps.eraseIdx : ∀ {ds : List D} {vs : List V} (i : Nat), Reps C ρ H ds vs → Reps C ρ H (ds.eraseIdx i) (vs.eraseIdx i)
  | [], vs, i, h => by
    have e : vs = [] := h
    subst e
    exact rfl
  | d' :: ds, _, 0, ⟨v', r, e, _, h2⟩ => by
    subst e
    exact h2
  | d' :: ds, _, i + 1, ⟨v', r, e, h1, h2⟩ => by
    subst e
    exact ⟨v', _, rfl, h1, Reps.eraseIdx i h2⟩
theorem Reps.reverse : ∀ {ds : List D} {vs : List V}, Reps C ρ H ds vs → Reps C ρ H ds.reverse vs.reverse
  | [], vs, h => by
    have e : vs = [] := h
    subst e
    exact rfl
  | d :: ds, _, ⟨v, r, e, h1, h2⟩ => by
    subst e
    rw [List.reverse_cons, List.reverse_cons]
    exact Reps.append (Reps.reverse h2) (Reps.one h1)
end

/-! ### what is computed -/
inductive Out (α : Type) where
  | ok (a : α) (w : List D)
  | exn (c : Str) (ns : List Str) (xs : List D) (w : List D)
  | no
/-- ro: the objects of those who called, w: the own ones -/
abbrev M (α : Type) := List D → List D → Out α
def M.pure {α : Type} (a : α) : M α := fun _ w => .ok a w
def M.no {α : Type} : M α := fun _ _ => .no
def M.exn {α : Type} (c : Str) (ns : List Str) (xs : List D) : M α := fun _ w => .exn c ns xs w
def M.bind {α β : Type} (m : M α) (f : α → M β) : M β := fun ro w => match m ro w with
  | .ok a w' => f a ro w'
  | .exn c ns xs w' => .exn c ns xs w'
  | .no => .no
instance : Monad M where
  pure := M.pure
  bind := M.bind
/-- an exception: its class, its own dict -/
def RepX (C : Cfg) (ρ : Zn) (H : Hp) (c : Str) (ns : List Str) (xs : List D) (cls : Value) (dx : Option Addr) : Prop :=
  ∃ A, C.mg c = some (.ref A) ∧ cls = .ref A ∧ ((ns = [] ∧ xs = [] ∧ dx = none) ∨ ∃ d fs, dx = some d ∧ ns ≠ [] ∧ ρ.Out d ∧ H d = some (.xd fs) ∧ ns = fs.map (·.1) ∧ Reps C ρ H xs (fs.map (·.2)))

section
variable {α β : Type}
def AfterR (C : Cfg) (R : Zn → Hp → α → β → Prop) (W : WX) (σ : St) (ρ : Zn) (H : Hp) (ro : List D) (o : Out α) (Q : β → Hp → Prop) : Prop :=
  match o with
  | .ok d w => ∀ v ρ' H', Ext ρ ρ' H H' → RepS C ρ' H' (ro ++ w) → R ρ' H' d v → Q v H'
  | .exn c ns xs w => ∀ cls dx ρ' H', Ext ρ ρ' H H' → RepS C ρ' H' (ro ++ w) → RepX C ρ' H' c ns xs cls dx → W cls dx σ H'
  | .no => False
def tR (C : Cfg) (R : Zn → Hp → α → β → Prop) (W : WX) (f : Env → M α) : St → Hp → (β → Hp → Prop) → Prop := fun σ H Q =>
  ∃ ρ env ro w, RepS C ρ H (ro ++ w) ∧ RepE C ρ H env σ ∧ AfterR C R W σ ρ H ro (f env ro w) Q

variable {C : Cfg} {R : Zn → Hp → α → β → Prop} {W : WX} {σ : St} {ρ ρ' : Zn} {H H' : Hp} {ro w : List D} {Q Q' : β → Hp → Prop}
theorem AfterR.ext {o : Out α} (x : Ext ρ ρ' H H') (h : AfterR C R W σ ρ H ro o Q) : AfterR C R W σ ρ' H' ro o Q := by
  cases o with
  | ok d w => exact fun v ρ2 H2 y hS hR => h v ρ2 H2 (x.trans y) hS hR
  | exn c ns xs w => exact fun cls dx ρ2 H2 y hS hR => h cls dx ρ2 H2 (x.trans y) hS hR
  | no => exact h
/-- one part after another -/
theorem tR_seq {α' β' : Type} {R' : Zn → Hp → α' → β' → Prop} {fa : Env → M α} {env : Env} {g : α → M α'} {Q : β' → Hp → Prop} {K : β → Hp → Prop} (hS : RepS C ρ H (ro ++ w)) (hE : RepE C ρ H env σ)
    (h : AfterR C R' W σ ρ H ro (M.bind (fa env) g ro w) Q)
    (k : ∀ d w1 v ρ1 H1, Ext ρ ρ1 H H1 → RepS C ρ1 H1 (ro ++ w1) → R ρ1 H1 d v → AfterR C R' W σ ρ1 H1 ro (g d ro w1) Q → K v H1) : tR C R W fa σ H K := by
  refine ⟨ρ, env, ro, w, hS, hE, ?_⟩
  unfold M.bind at h
  cases e : fa env ro w with
  | ok d w1 =>
    rw [e] at h
    exact fun v ρ1 H1 x s r => k d w1 v ρ1 H1 x s r (AfterR.ext x h)
  | exn c ns xs w1 =>
    rw [e] at h
    exact h
  | no =>
    rw [e] at h
    exact h
end

abbrev EF := Env → M D
abbrev RB : Zn → Hp → Bool → Bool → Prop := fun _ _ a b => a = b
abbrev tE (C : Cfg) (W : WX) (f : EF) : TE := tR C (Rep C) W f
abbrev tA (C : Cfg) (W : WX) (f : Env → M (List D)) : TA := tR C (Reps C) W f
abbrev tT (C : Cfg) (W : WX) (f : Env → M Bool) : TT := tR C RB W f

theorem pe_imp {X : Cx} {e : Expr} {t t' : TE} (h : PE X e t) (i : ∀ σ H Q, t' σ H Q → t σ H Q) : PE X e t' := ⟨fun pins s σ H Q I q => h.run pins s σ H Q I (i σ H Q q)⟩
theorem pt_imp {X : Cx} {e : Expr} {t t' : TT} (h : PT X e t) (i : ∀ σ H Q, t' σ H Q → t σ H Q) : PT X e t' := ⟨fun pins s σ H Q I q => h.run pins s σ H Q I (i σ H Q q)⟩
theorem pa_imp {X : Cx} {e : List Expr} {t t' : TA} (h : PA X e t) (i : ∀ σ H Q, t' σ H Q → t σ H Q) : PA X e t' := ⟨fun pos pins s σ H Q I q => h.run pos pins s σ H Q I (i σ H Q q)⟩

end Fx
namespace Fx
open PySem PySem.Spec L2

/-! ### the state behind a step -/
section
variable {C : Cfg} {ρ : Zn} {H H' : Hp} {w : List D}
theorem RepO.has {d : D} {a : Addr} (h : RepO C ρ H d a) : ∃ o, H a = some o := by
  cases d with
  | lst ds => obtain ⟨vs, e, _⟩ := h; exact ⟨_, e⟩
  | dic ks ds => obtain ⟨vs, e, _⟩ := h; exact ⟨_, e⟩
  | dct ks ds => obtain ⟨es, ep, as, vs, e, _⟩ := h; exact ⟨_, e⟩
  | ins c ns ds => obtain ⟨A, dx, fs, _, e, _⟩ := h; exact ⟨_, e⟩
  | _ => exact (show False from h).elim
theorem RepS.has (hS : RepS C ρ H w) {a : Addr} (ha : a ∈ ρ.r) : ∃ o, H a = some o := by
  obtain ⟨i, hi, rfl⟩ := List.mem_iff_getElem.mp ha
  have hw : i < w.length := by rw [← hS.len]; exact hi
  exact (hS.obj i _ _ (List.getElem?_eq_getElem hi) (List.getElem?_eq_getElem hw)).has
theorem RepS.fresh (hS : RepS C ρ H w) {p : Addr} (hp : H p = none) : ρ.Out p := by
  refine ⟨fun h => ?_, fun h => ?_⟩
  · obtain ⟨o, e⟩ := hS.has h
    rw [hp] at e
    cases e
  · obtain ⟨o, e⟩ := (hS.hid p h).2
    rw [hp] at e
    cases e
theorem RepO.same {d : D} {a : Addr} {ρ' : Zn} (x : Ext ρ ρ' H H') (e : H' a = H a) (h : RepO C ρ H d a) : RepO C ρ' H' d a := by
  cases d with
  | lst ds => obtain ⟨vs, q, r⟩ := h; exact ⟨vs, e.trans q, Reps.ext x ds r⟩
  | dic ks ds => obtain ⟨vs, q, k, r⟩ := h; exact ⟨vs, e.trans q, k, Reps.ext x ds r⟩
  | dct ks ds => obtain ⟨es, ep, as, vs, q, en, nd, rk, r⟩ := h; exact ⟨es, ep, as, vs, e.trans q, en, nd, Reps.ext x ks rk, Reps.ext x ds r⟩
  | ins c ns ds => obtain ⟨A, dx, fs, m, q, k, r⟩ := h; exact ⟨A, dx, fs, m, e.trans q, k, Reps.ext x ds r⟩
  | _ => exact (show False from h).elim
theorem RepS.same (hS : RepS C ρ H w) (x : Ext ρ ρ H H') (e : ∀ a ∈ ρ.r, H' a = H a) : RepS C ρ H' w :=
  ⟨hS.len, hS.nd, fun i a d h1 h2 => RepO.same x (e a (List.mem_of_getElem? h1)) (hS.obj i a d h1 h2), fun a ha => ⟨(hS.hid a ha).1, by rw [x.same a ha]; exact (hS.hid a ha).2⟩⟩
/-- a new thing that stands still -/
theorem ext_new (hS : RepS C ρ H w) {p : Addr} {o : HO} (hp : H p = none) : Ext ρ ρ H (upd H p o) :=
  ⟨⟨[], by simp⟩, rfl, fun a u e n => ⟨by rw [upd_ne (ne_of_none e hp)]; exact e, n⟩, fun a ha => upd_ne fun e => (hS.fresh hp).2 (e ▸ ha)⟩
theorem reps_new (hS : RepS C ρ H w) {p : Addr} {o : HO} (hp : H p = none) : RepS C ρ (upd H p o) w :=
  hS.same (ext_new hS hp) fun a ha => upd_ne fun e => (hS.fresh hp).1 (e ▸ ha)
/-- a new thing that may change -/
abbrev Zn.more (ρ : Zn) (p : Addr) : Zn := ⟨ρ.r ++ [p], ρ.h⟩
theorem ext_mut (hS : RepS C ρ H w) {p : Addr} {o : HO} (hp : H p = none) : Ext ρ (ρ.more p) H (upd H p o) :=
  ⟨⟨[p], rfl⟩, rfl, fun a u e n => ⟨by rw [upd_ne (ne_of_none e hp)]; exact e, by
    show a ∉ ρ.r ++ [p]
    rw [List.mem_append, not_or]
    exact ⟨n.1, fun z => ne_of_none e hp (List.mem_singleton.mp z)⟩, n.2⟩, fun a ha => upd_ne fun e => (hS.fresh hp).2 (e ▸ ha)⟩
theorem reps_mut (hS : RepS C ρ H w) {p : Addr} {o : HO} {d : D} (hp : H p = none) (h : RepO C (ρ.more p) (upd H p o) d p) : RepS C (ρ.more p) (upd H p o) (w ++ [d]) := by
  refine ⟨by simp [hS.len], ?_, fun i a d' h1 h2 => ?_, fun a ha => ⟨?_, ?_⟩⟩
  · show (ρ.r ++ [p]).Nodup
    rw [List.nodup_append]
    refine ⟨hS.nd, by simp, fun a ha b hb e => ?_⟩
    rw [List.mem_singleton] at hb
    exact (hS.fresh hp).1 (hb ▸ e ▸ ha)
  · replace h1 : (ρ.r ++ [p])[i]? = some a := h1
    by_cases hi : i < ρ.r.length
    · rw [List.getElem?_append_left hi] at h1
      rw [List.getElem?_append_left (by rw [← hS.len]; exact hi)] at h2
      exact RepO.same (ext_mut hS hp) (upd_ne fun e => (hS.fresh hp).1 (e ▸ List.mem_of_getElem? h1)) (hS.obj i a d' h1 h2)
    · have hl := (List.getElem?_eq_some_iff.mp h1).1
      rw [List.length_append, List.length_singleton] at hl
      have e : i = ρ.r.length := by omega
      subst e
      rw [List.getElem?_append_right (Nat.le_refl _), Nat.sub_self] at h1
      rw [List.getElem?_append_right (by rw [hS.len]; exact Nat.le_refl _), hS.len, Nat.sub_self] at h2
      simp only [List.getElem?_cons_zero, Option.some.injEq] at h1 h2
      subst h1
      subst h2
      exact h
  · show a ∉ ρ.r ++ [p]
    rw [List.mem_append, not_or]
    exact ⟨(hS.hid a ha).1, fun z => (hS.fresh hp).2 (List.mem_singleton.mp z ▸ ha)⟩
  · obtain ⟨u, e⟩ := (hS.hid a ha).2
    exact ⟨u, by rw [upd_ne (ne_of_none e hp)]; exact e⟩
/-- the n-th object is written -/
theorem ext_put (hS : RepS C ρ H w) {n : Nat} {a : Addr} {o : HO} (ha : ρ.r[n]? = some a) : Ext ρ ρ H (upd H a o) :=
  ⟨⟨[], by simp⟩, rfl, fun b u e k => ⟨by rw [upd_ne fun z => k.1 (by rw [z]; exact List.mem_of_getElem? ha)]; exact e, k⟩,
    fun b hb => upd_ne fun z => (hS.hid b hb).1 (by rw [z]; exact List.mem_of_getElem? ha)⟩
theorem reps_put (hS : RepS C ρ H w) {n : Nat} {a : Addr} {o : HO} {d : D} (ha : ρ.r[n]? = some a) (h : RepO C ρ (upd H a o) d a) : RepS C ρ (upd H a o) (w.set n d) := by
  refine ⟨by simp [hS.len], hS.nd, fun i b d' h1 h2 => ?_, fun b hb => ⟨(hS.hid b hb).1, by rw [(ext_put (o := o) hS ha).same b hb]; exact (hS.hid b hb).2⟩⟩
  by_cases hi : i = n
  · subst hi
    rw [ha] at h1
    cases h1
    have hl := (List.getElem?_eq_some_iff.mp h2).1
    rw [List.length_set] at hl
    rw [List.getElem?_set_self hl] at h2
    cases h2
    exact h
  · rw [List.getElem?_set_ne (Ne.symm hi)] at h2
    have hb : b ≠ a := by
      intro z
      subst z
      have h1' := List.getElem?_eq_some_iff.mp h1
      have h3' := List.getElem?_eq_some_iff.mp ha
      exact hi ((List.getElem_inj hS.nd).mp (h1'.2.trans h3'.2.symm))
    exact RepO.same (ext_put hS ha) (upd_ne hb) (hS.obj i b d' h1 h2)
end

section
variable {C : Cfg} {α : Type} {W : WX} {σ : St} {ρ : Zn} {H : Hp} {ro w : List D} {Q : VK}
theorem ok_same {d : D} {v : V} (hS : RepS C ρ H (ro ++ w)) (r : Rep C ρ H d v) (h : AfterR C (Rep C) W σ ρ H ro (.ok d w) Q) : Q v H := h v ρ H .refl hS r
theorem ok_int {i : Int} (hS : RepS C ρ H (ro ++ w)) (h : AfterR C (Rep C) W σ ρ H ro (.ok (.int i) w) Q) : Q (.int i) H := ok_same hS (d := .int i) (v := .int i) rfl h
theorem ok_bl {i : Bool} (hS : RepS C ρ H (ro ++ w)) (h : AfterR C (Rep C) W σ ρ H ro (.ok (.bl i) w) Q) : Q (.bl i) H := ok_same hS (d := .bl i) (v := .bl i) rfl h
theorem ok_str {i : Str} (hS : RepS C ρ H (ro ++ w)) (h : AfterR C (Rep C) W σ ρ H ro (.ok (.str i) w) Q) : Q (.str i) H := ok_same hS (d := .str i) (v := .str i) rfl h
theorem ok_non (hS : RepS C ρ H (ro ++ w)) (h : AfterR C (Rep C) W σ ρ H ro (.ok .non w) Q) : Q .non H := ok_same hS (d := .non) (v := .non) rfl h
theorem ok_tup {ds : List D} {vs : List V} (hS : RepS C ρ H (ro ++ w)) (r : Reps C ρ H ds vs) (h : AfterR C (Rep C) W σ ρ H ro (.ok (.tup ds) w) Q) : ∀ p, H p = none → Q (.ref p) (upd H p (.tup vs)) := fun p hp =>
  h _ ρ _ (ext_new hS hp) (reps_new hS hp) ⟨p, vs, rfl, .inl ⟨hS.fresh hp, .inl upd_same⟩, Reps.ext (ext_new hS hp) ds r⟩
theorem ok_lst {ds : List D} {vs : List V} (hS : RepS C ρ H (ro ++ w)) (r : Reps C ρ H ds vs) (h : AfterR C (Rep C) W σ ρ H ro (.ok (.lst ds) w) Q) : ∀ p, H p = none → Q (.ref p) (upd H p (.lst vs)) := fun p hp =>
  h _ ρ _ (ext_new hS hp) (reps_new hS hp) ⟨p, vs, rfl, .inl ⟨hS.fresh hp, .inl upd_same⟩, Reps.ext (ext_new hS hp) ds r⟩
theorem ok_newL {ds : List D} {vs : List V} (hS : RepS C ρ H (ro ++ w)) (r : Reps C ρ H ds vs) (h : AfterR C (Rep C) W σ ρ H ro (.ok (.ref (ro ++ w).length) (w ++ [.lst ds])) Q) : ∀ p, H p = none → Q (.ref p) (upd H p (.lst vs)) := fun p hp =>
  h _ _ _ (ext_mut hS hp) (by rw [← List.append_assoc]; exact reps_mut hS hp ⟨vs, upd_same, Reps.ext (ext_mut hS hp) ds r⟩)
    ⟨p, by show (ρ.r ++ [p])[_]? = _; rw [← hS.len, List.getElem?_append_right (Nat.le_refl _), Nat.sub_self]; rfl, rfl⟩
theorem ok_put {n : Nat} {a : Addr} {o : HO} {d e : D} {v : V} (hS : RepS C ρ H (ro ++ w)) (hn : ¬ n < ro.length) (ha : ρ.r[n]? = some a) (hO : ∀ H', Ext ρ ρ H H' → H' a = some o → RepO C ρ H' d a) (r : Rep C ρ H e v)
    (h : AfterR C (Rep C) W σ ρ H ro (.ok e (w.set (n - ro.length) d)) Q) : Q v (upd H a o) := by
  refine h v ρ _ (ext_put hS ha) ?_ (Rep.ext (ext_put hS ha) e r)
  have z := reps_put (o := o) (d := d) hS ha (hO _ (ext_put hS ha) upd_same)
  rw [List.set_append_right _ _ (by omega)] at z
  exact z
end

/-! ### what is seen of a value: an object that may change, as it stands now -/
def see (ro w : List D) : D → D
  | .ref n => ((ro ++ w)[n]?).getD .non
  | d => d
def M.see (d : D) : M D := fun ro w => .ok (Fx.see ro w d) w
def Seen (C : Cfg) (ρ : Zn) (H : Hp) (d : D) (v : V) : Prop := Rep C ρ H d v ∨ ∃ a, v = .ref a ∧ RepO C ρ H d a
section
variable {C : Cfg} {ρ : Zn} {H : Hp} {ro w : List D}
theorem seen_of {d : D} {v : V} (hS : RepS C ρ H (ro ++ w)) (r : Rep C ρ H d v) : Seen C ρ H (see ro w d) v := by
  cases d with
  | ref n =>
    obtain ⟨a, e, rfl⟩ := r
    have hn := (List.getElem?_eq_some_iff.mp e).1
    have hw : n < (ro ++ w).length := by rw [← hS.len]; exact hn
    have z : see ro w (.ref n) = (ro ++ w)[n] := by
      show ((ro ++ w)[n]?).getD .non = _
      rw [List.getElem?_eq_getElem hw]
      rfl
    rw [z]
    exact .inr ⟨a, rfl, hS.obj n a _ e (List.getElem?_eq_getElem hw)⟩
  | _ => exact .inl r
theorem Still.rd {a : Addr} {u : HO} (h : Still ρ H a u) : Rd H a u := h.2
theorem Seen.lst {ds : List D} {v : V} (h : Seen C ρ H (.lst ds) v) : ∃ a vs, v = .ref a ∧ SqL C.K H a vs ∧ Reps C ρ H ds vs := by
  rcases h with ⟨a, vs, e, h | h, r⟩ | ⟨a, e, vs, h, r⟩
  · exact ⟨a, vs, e, .inl h.2, r⟩
  · exact ⟨a, vs, e, .inr h, r⟩
  · exact ⟨a, vs, e, .inl (.inl h), r⟩
theorem Seen.tup {ds : List D} {v : V} (h : Seen C ρ H (.tup ds) v) : ∃ a vs, v = .ref a ∧ SqT C.K H a vs ∧ Reps C ρ H ds vs := by
  rcases h with ⟨a, vs, e, h | h, r⟩ | ⟨a, e, h⟩
  · exact ⟨a, vs, e, .inl h.2, r⟩
  · exact ⟨a, vs, e, .inr h, r⟩
  · exact (show False from h).elim
theorem Seen.tupR {ds : List D} {v : V} (h : Seen C ρ H (.tup ds) v) : Rep C ρ H (.tup ds) v := by
  rcases h with h | ⟨a, e, h⟩
  · exact h
  · exact (show False from h).elim
theorem Seen.int {i : Int} {v : V} (h : Seen C ρ H (.int i) v) : v = .int i := by
  rcases h with h | ⟨a, e, h⟩
  · exact h
  · exact (show False from h).elim
theorem Seen.str {i : Str} {v : V} (h : Seen C ρ H (.str i) v) : v = .str i := by
  rcases h with h | ⟨a, e, h⟩
  · exact h
  · exact (show False from h).elim
theorem Seen.bl {i : Bool} {v : V} (h : Seen C ρ H (.bl i) v) : v = .bl i := by
  rcases h with h | ⟨a, e, h⟩
  · exact h
  · exact (show False from h).elim
theorem Seen.non {v : V} (h : Seen C ρ H .non v) : v = .non := by
  rcases h with h | ⟨a, e, h⟩
  · exact h
  · exact (show False from h).elim
theorem Seen.dic {ks ds : List D} {v : V} (h : Seen C ρ H (.dic ks ds) v) : ∃ a kvs, v = .ref a ∧ Rd H a (.dK kvs) ∧ ks.map keyOf = kvs.map (fun p => some p.1) ∧ Reps C ρ H ds (kvs.map (·.2)) := by
  rcases h with ⟨a, kvs, e, h, k, r⟩ | ⟨a, e, kvs, h, k, r⟩
  · exact ⟨a, kvs, e, h.2, k, r⟩
  · exact ⟨a, kvs, e, .inl h, k, r⟩
end

/-! ### two values in, one out -/
/-- r is met by what g computes from the things seen -/
def Ok2 (C : Cfg) (r : R2) (g : D → D → M D) : Prop :=
  ∀ (W : WX) (σ : St) (ρ : Zn) (H : Hp) (ro w : List D) (d e : D) (x y : V) (Q : VK), RepS C ρ H (ro ++ w) → Seen C ρ H d x → Seen C ρ H e y → AfterR C (Rep C) W σ ρ H ro (g d e ro w) Q → r x y H Q
def cBin (g : D → D → M D) (fa fb : EF) : EF := fun env => M.bind (fa env) fun d => M.bind (fb env) fun e => M.bind (M.see d) fun d' => M.bind (M.see e) fun e' => g d' e'
theorem tE_bin {C : Cfg} {W : WX} {r : R2} {g : D → D → M D} {fa fb : EF} (h : Ok2 C r g) {σ : St} {H : Hp} {Q : VK} (q : tE C W (cBin g fa fb) σ H Q) : tOp r (tE C W fa) (tE C W fb) σ H Q := by
  obtain ⟨ρ, env, ro, w, hS, hE, q⟩ := q
  refine tR_seq hS hE q fun d w1 v ρ1 H1 x1 s1 r1 q1 => ?_
  refine tR_seq s1 (hE.ext x1) q1 fun e w2 u ρ2 H2 x2 s2 r2 q2 => ?_
  exact h W σ ρ2 H2 ro w2 _ _ v u Q s2 (seen_of s2 (Rep.ext x2 d r1)) (seen_of s2 r2) q2

section
variable {X : Cx} {C : Cfg} {W : WX} {a b : Expr} {fa fb : EF} {pos : Pos}
theorem pf_op {op : Operator} {r : R2} {g : D → D → M D} (ho : OpR X (binaryOp op) r) (hr : Ok2 C r g) (ha : PE X a (tE C W fa)) (hb : PE X b (tE C W fb)) : PE X (.BinOp a op b pos) (tE C W (cBin g fa fb)) :=
  pe_imp (pe_op ho ha hb) fun _ _ _ q => tE_bin hr q
theorem pf_cmp {op : CmpOp} {r : R2} {g : D → D → M D} (ho : OpR X (compareOp op) r) (hr : Ok2 C r g) (ha : PE X a (tE C W fa)) (hb : PE X b (tE C W fb)) (hm : behindInMarks op b = false) : PE X (.Compare a [op] [b] pos) (tE C W (cBin g fa fb)) :=
  pe_imp (pe_cmpR ho ha hb hm) fun _ _ _ q => tE_bin hr q
end

/-! ### a value as a test -/
def M.bool (d : D) : M Bool := match d with
  | .bl b => M.pure b
  | _ => M.no
def cTest (f : EF) : Env → M Bool := fun env => M.bind (f env) M.bool
end Fx
namespace Fx
open PySem PySem.Spec L2

/-! ### data that can be compared -/
mutual
def D.py : D → PyData
  | .bl b => .bool b
  | .int i => .int i
  | .str x => .str x
  | .tup ds => .tuple (D.pys ds)
  | .lst ds => .list (D.pys ds)
  | _ => .none
def D.pys : List D → List PyData
  | [] => []
  | d :: ds => d.py :: D.pys ds
end
mutual
def D.flat : D → Bool
  | .non => true
  | .bl _ => true
  | .int _ => true
  | .str _ => true
  | .tup ds => D.flats ds
  | .lst ds => D.flats ds
  | _ => false
def D.flats : List D → Bool
  | [] => true
  | d :: ds => d.flat && D.flats ds
end
def D.cmp (d : D) : Bool := d.flat && SeqAt.shaped d.py
section
variable {C : Cfg} {ρ : Zn} {H : Hp}
theorem Still.sqL {a : Addr} {vs : List V} (h : Still ρ H a (.lst vs) ∨ KL C.K a vs) : SqL C.K H a vs := h.elim (fun h => .inl h.2) .inr
theorem Still.sqT {a : Addr} {vs : List V} (h : Still ρ H a (.tup vs) ∨ KT C.K a vs) : SqT C.K H a vs := h.elim (fun h => .inl h.2) .inr
mutual
theorem Rep.dp : ∀ (d : D) {v : V}, d.flat = true → Rep C ρ H d v → Dp C.K H v d.py
  | .non, v, _, h => by cases (show v = .non from h); exact .non
  | .bl b, v, _, h => by cases (show v = .bl b from h); exact .bl b
  | .int i, v, _, h => by cases (show v = .int i from h); exact .int i
  | .str x, v, _, h => by cases (show v = .str x from h); exact .str x
  | .tup ds, v, f, ⟨a, vs, e, h, r⟩ => by
    subst e
    exact .tup (Still.sqT h) (Reps.dp ds (by simpa [D.flat] using f) r)
  | .lst ds, v, f, ⟨a, vs, e, h, r⟩ => by
    subst e
    exact .lst (Still.sqL h) (Reps.dp ds (by simpa [D.flat] using f) r)
  | .dic _ _, _, f, _ => by simp [D.flat] at f
  | .dct _ _, _, f, _ => by simp [D.flat] at f
  | .ins _ _ _, _, f, _ => by simp [D.flat] at f
  | .fn _, _, f, _ => by simp [D.flat] at f
  | .rng _, _, f, _ => by simp [D.flat] at f
  | .ref _, _, f, _ => by simp [D.flat] at f
theorem Reps.dp : ∀ (ds : List D) {vs : List V}, D.flats ds = true → Reps C ρ H ds vs → DpAll C.K H vs (D.pys ds)
  | [], vs, _, h => by
    have e : vs = [] := h
    subst e
    exact .nil
  | d :: ds, vs, f, ⟨v, r, e, h1, h2⟩ => by
    subst e
    have f' : d.flat = true ∧ D.flats ds = true := by simpa [D.flats] using f
    exact .cons (Rep.dp d f'.1 h1) (Reps.dp ds f'.2 h2)
end
theorem Seen.dp {d : D} {v : V} (f : d.flat = true) (h : Seen C ρ H d v) : Dp C.K H v d.py := by
  rcases h with h | ⟨a, e, h⟩
  · exact Rep.dp d f h
  · subst e
    cases d with
    | lst ds =>
      obtain ⟨vs, q, r⟩ := h
      exact .lst (.inl (.inl q)) (Reps.dp ds (by simpa [D.flat] using f) r)
    | dic ks ds => simp [D.flat] at f
    | dct ks ds => simp [D.flat] at f
    | ins c ns ds => simp [D.flat] at f
    | _ => exact (show False from h).elim
end

/-! ### the operators -/
def gAdd (x y : D) : M D := match x, y with
  | .int i, .int j => M.pure (.int (i + j))
  | .str a, .str b => fun _ w => if a.length + b.length ≤ sizeLine then .ok (.str (a ++ b)) w else .no
  | .tup a, .tup b => fun _ w => if a.length + b.length ≤ sizeLine then .ok (.tup (a ++ b)) w else .no
  | .lst a, .lst b => fun _ w => if a.length + b.length ≤ sizeLine then .ok (.lst (a ++ b)) w else .no
  | _, _ => M.no
def gSub (x y : D) : M D := match x, y with
  | .int i, .int j => M.pure (.int (i - j))
  | _, _ => M.no
def gMul (x y : D) : M D := match x, y with
  | .int i, .int j => fun _ w => if i.natAbs < 2 ^ 64 ∨ j.natAbs < 2 ^ 64 then .ok (.int (i * j)) w else .no
  | _, _ => M.no
def gDiv (x y : D) : M D := match x, y with
  | .int i, .int j => fun _ w => if 0 < j ∧ j.natAbs < 1073741824 then .ok (.int (i / j)) w else .no
  | _, _ => M.no
def gMod (x y : D) : M D := match x, y with
  | .int i, .int j => fun _ w => if 0 < j then .ok (.int (i % j)) w else .no
  | _, _ => M.no
def gLt (x y : D) : M D := match x, y with
  | .int i, .int j => M.pure (.bl (decide (i < j)))
  | _, _ => M.no
def gLe (x y : D) : M D := match x, y with
  | .int i, .int j => M.pure (.bl (decide (i ≤ j)))
  | _, _ => M.no
def gGt (x y : D) : M D := match x, y with
  | .int i, .int j => M.pure (.bl (decide (j < i)))
  | _, _ => M.no
def gGe (x y : D) : M D := match x, y with
  | .int i, .int j => M.pure (.bl (decide (j ≤ i)))
  | _, _ => M.no
def gEq (x y : D) : M D := fun _ w => if x.cmp && y.cmp then .ok (.bl (PyData.eqv x.py y.py)) w else .no
def gNe (x y : D) : M D := fun _ w => if x.cmp && y.cmp then .ok (.bl (!PyData.eqv x.py y.py)) w else .no
def D.isNon : D → Bool
  | .non => true
  | _ => false
def gIsN (x y : D) : M D := match y with
  | .non => M.pure (.bl x.isNon)
  | _ => M.no
def gNotN (x y : D) : M D := match y with
  | .non => M.pure (.bl (!x.isNon))
  | _ => M.no


abbrev cfg (X : Cx) : Cfg := ⟨X.K, X.mg, X.w⟩
section
variable {X : Cx} {pins : List (Addr × Obj)} {σ : L2.St} {H : Hp} {s : Shared}
/-- lists joined -/
def rCatL (K : PySem.W.Frag) : R2 := fun x y H Q => ∃ l b xs zs, x = .ref l ∧ y = .ref b ∧ SqL K H l xs ∧ SqL K H b zs ∧ xs.length + zs.length ≤ sizeLine ∧ ∀ p, H p = none → Q (.ref p) (upd H p (.lst (xs ++ zs)))
theorem op_catL : OpR X (binaryOp .Add) (rCatL X.K) := by
  intro pins s σ H x y v u Q I rx ry h
  obtain ⟨l, b, xs, zs, rfl, rfl, hH, hB, hz, q⟩ := h
  cases rx
  cases ry
  obtain ⟨its, r, pl, _⟩ := I.list hH
  obtain ⟨its2, r2, pl2, _⟩ := I.list hB
  obtain ⟨⟨cls, dd, data, sl⟩, ho, hc, n, hd⟩ := pl.isList
  obtain ⟨⟨cls2, dd2, data2, sl2⟩, ho2, hc2, n2, hd2⟩ := pl2.isList
  simp only at hc hd hc2 hd2
  subst hc hd hc2 hd2
  have h1 := r.length
  have h2 := r2.length
  have ea : its.toArray ++ its2.toArray = (its ++ its2).toArray := by simp
  refine concat_meets ⟨_, ho, rfl⟩ ⟨_, ho2, rfl⟩ noFill_list_add seq_list_add PySem.F.slot_list_add PySem.F.entry_list_add (PySem.F.args_list_add_2 _ _) (PyProof.Rows.list_addW l b its.toArray its2.toArray n n2 dd dd2 sl sl2 (by rw [List.size_toArray, List.size_toArray]; omega)) ⟨ho, ho2, ?_⟩
  rw [ea]
  exact ⟨.ref _, _, I.lnew (t' := s.toks) (r.append r2) (by rw [List.length_append]; omega), rfl, q _ I.fresh⟩

theorem opf_add : OpR X (binaryOp .Add) (fun x y H Q => (∃ i j, x = .int i ∧ y = .int j ∧ Q (.int (i + j)) H) ∨ (∃ i j, x = .str i ∧ y = .str j ∧ i.length + j.length ≤ sizeLine ∧ Q (.str (i ++ j)) H) ∨ rCatA X.K x y H Q ∨ rCatL X.K x y H Q) :=
  op_add.or (op_add_str.or (op_catA.or op_catL))
end

section
variable {C : Cfg}
theorem ok2_add : Ok2 C (fun x y H Q => (∃ i j, x = .int i ∧ y = .int j ∧ Q (.int (i + j)) H) ∨ (∃ i j, x = .str i ∧ y = .str j ∧ i.length + j.length ≤ sizeLine ∧ Q (.str (i ++ j)) H) ∨ rCatA C.K x y H Q ∨ rCatL C.K x y H Q) gAdd := by
  intro W σ ρ H ro w d e x y Q hS hd he q
  cases d with
  | int i =>
    cases e with
    | int j => exact .inl ⟨i, j, hd.int, he.int, ok_int hS q⟩
    | _ => exact (show False from q).elim
  | str a =>
    cases e with
    | str b =>
      unfold gAdd at q
      by_cases c : a.length + b.length ≤ sizeLine
      · simp only [if_pos c] at q
        exact .inr (.inl ⟨a, b, hd.str, he.str, c, ok_str hS q⟩)
      · simp only [if_neg c] at q
        exact (show False from q).elim
    | _ => exact (show False from q).elim
  | tup a =>
    cases e with
    | tup b =>
      unfold gAdd at q
      by_cases c : a.length + b.length ≤ sizeLine
      · simp only [if_pos c] at q
        obtain ⟨l, vs, rfl, h1, r1⟩ := hd.tup
        obtain ⟨m, us, rfl, h2, r2⟩ := he.tup
        refine .inr (.inr (.inl ⟨l, m, vs, us, rfl, rfl, h1, h2, by rw [← r1.len, ← r2.len]; exact c, fun z => ?_, fun _ z => ?_, fun _ _ => ok_tup hS (r1.append r2) q⟩))
        · have ea : a = [] := by
            cases a with
            | nil => rfl
            | cons _ _ =>
              have := r1.len
              rw [z] at this
              simp at this
          subst ea
          exact ok_same hS he.tupR q
        · have eb : b = [] := by
            cases b with
            | nil => rfl
            | cons _ _ =>
              have := r2.len
              rw [z] at this
              simp at this
          subst eb
          rw [List.append_nil] at q
          exact ok_same hS hd.tupR q
      · simp only [if_neg c] at q
        exact (show False from q).elim
    | _ => exact (show False from q).elim
  | lst a =>
    cases e with
    | lst b =>
      unfold gAdd at q
      by_cases c : a.length + b.length ≤ sizeLine
      · simp only [if_pos c] at q
        obtain ⟨l, vs, rfl, h1, r1⟩ := hd.lst
        obtain ⟨m, us, rfl, h2, r2⟩ := he.lst
        exact .inr (.inr (.inr ⟨l, m, vs, us, rfl, rfl, h1, h2, by rw [← r1.len, ← r2.len]; exact c, ok_lst hS (r1.append r2) q⟩))
      · simp only [if_neg c] at q
        exact (show False from q).elim
    | _ => exact (show False from q).elim
  | _ => exact (show False from q).elim

/-- ints in -/
theorem ok2_I0 {f : Int → Int → V} {g : D → D → M D} {k : Int → Int → D} (hg : ∀ d e, (∃ i j, d = .int i ∧ e = .int j ∧ g d e = M.pure (k i j)) ∨ g d e = M.no) (hk : ∀ i j ρ H, Rep C ρ H (k i j) (f i j)) : Ok2 C (rI0 f) g := by
  intro W σ ρ H ro w d e x y Q hS hd he q
  rcases hg d e with ⟨i, j, rfl, rfl, z⟩ | z
  · rw [z] at q
    exact ⟨i, j, hd.int, he.int, ok_same hS (hk i j ρ H) q⟩
  · rw [z] at q
    exact (show False from q).elim
theorem ok2_I {c : Int → Int → Prop} {f : Int → Int → V} {g : D → D → M D} {k : Int → Int → D} (hg : ∀ d e, (∃ i j, d = .int i ∧ e = .int j ∧ ((c i j ∧ g d e = M.pure (k i j)) ∨ g d e = M.no)) ∨ g d e = M.no) (hk : ∀ i j ρ H, Rep C ρ H (k i j) (f i j)) : Ok2 C (rI c f) g := by
  intro W σ ρ H ro w d e x y Q hS hd he q
  rcases hg d e with ⟨i, j, rfl, rfl, ⟨hc, z⟩ | z⟩ | z
  · rw [z] at q
    exact ⟨i, j, hd.int, he.int, hc, ok_same hS (hk i j ρ H) q⟩
  · rw [z] at q
    exact (show False from q).elim
  · rw [z] at q
    exact (show False from q).elim
theorem ok2_sub : Ok2 C (rI0 fun i j => .int (i - j)) gSub := ok2_I0 (k := fun i j => .int (i - j)) (fun d e => by cases d <;> cases e <;> first | exact .inr rfl | exact .inl ⟨_, _, rfl, rfl, rfl⟩) fun _ _ _ _ => rfl
theorem ok2_lt : Ok2 C (rI0 fun i j => .bl (decide (i < j))) gLt := ok2_I0 (k := fun i j => .bl (decide (i < j))) (fun d e => by cases d <;> cases e <;> first | exact .inr rfl | exact .inl ⟨_, _, rfl, rfl, rfl⟩) fun _ _ _ _ => rfl
theorem ok2_le : Ok2 C (rI0 fun i j => .bl (decide (i ≤ j))) gLe := ok2_I0 (k := fun i j => .bl (decide (i ≤ j))) (fun d e => by cases d <;> cases e <;> first | exact .inr rfl | exact .inl ⟨_, _, rfl, rfl, rfl⟩) fun _ _ _ _ => rfl
theorem ok2_gt : Ok2 C (rI0 fun i j => .bl (decide (j < i))) gGt := ok2_I0 (k := fun i j => .bl (decide (j < i))) (fun d e => by cases d <;> cases e <;> first | exact .inr rfl | exact .inl ⟨_, _, rfl, rfl, rfl⟩) fun _ _ _ _ => rfl
theorem ok2_ge : Ok2 C (rI0 fun i j => .bl (decide (j ≤ i))) gGe := ok2_I0 (k := fun i j => .bl (decide (j ≤ i))) (fun d e => by cases d <;> cases e <;> first | exact .inr rfl | exact .inl ⟨_, _, rfl, rfl, rfl⟩) fun _ _ _ _ => rfl
theorem ok2_mul : Ok2 C (rI CMul fun i j => .int (i * j)) gMul := ok2_I (k := fun i j => .int (i * j)) (fun d e => by
  cases d <;> cases e <;> first
    | exact .inr rfl
    | (rename_i i j
       by_cases c : i.natAbs < 2 ^ 64 ∨ j.natAbs < 2 ^ 64
       · exact .inl ⟨i, j, rfl, rfl, .inl ⟨by unfold CMul; omega, by funext ro w; unfold gMul M.pure; simp only [if_pos c]⟩⟩
       · exact .inl ⟨i, j, rfl, rfl, .inr (by funext ro w; unfold gMul M.no; simp only [if_neg c])⟩)) fun _ _ _ _ => rfl
theorem ok2_div : Ok2 C (rI CDiv fun i j => .int (i / j)) gDiv := ok2_I (k := fun i j => .int (i / j)) (fun d e => by
  cases d <;> cases e <;> first
    | exact .inr rfl
    | (rename_i i j
       by_cases c : 0 < j ∧ j.natAbs < 1073741824
       · exact .inl ⟨i, j, rfl, rfl, .inl ⟨by unfold CDiv; omega, by funext ro w; unfold gDiv M.pure; simp only [if_pos c]⟩⟩
       · exact .inl ⟨i, j, rfl, rfl, .inr (by funext ro w; unfold gDiv M.no; simp only [if_neg c])⟩)) fun _ _ _ _ => rfl
theorem ok2_mod : Ok2 C (rI (fun _ j => 0 < j) fun i j => .int (i % j)) gMod := ok2_I (k := fun i j => .int (i % j)) (fun d e => by
  cases d <;> cases e <;> first
    | exact .inr rfl
    | (rename_i i j
       by_cases c : 0 < j
       · exact .inl ⟨i, j, rfl, rfl, .inl ⟨c, by funext ro w; unfold gMod M.pure; simp only [if_pos c]⟩⟩
       · exact .inl ⟨i, j, rfl, rfl, .inr (by funext ro w; unfold gMod M.no; simp only [if_neg c])⟩)) fun _ _ _ _ => rfl
theorem ok2_eq : Ok2 C (rEqD C.K) gEq := by
  intro W σ ρ H ro w d e x y Q hS hd he q
  unfold gEq at q
  by_cases c : (d.cmp && e.cmp) = true
  · simp only [if_pos c] at q
    obtain ⟨c1, c2⟩ := Bool.and_eq_true_iff.mp c
    obtain ⟨f1, s1⟩ := Bool.and_eq_true_iff.mp c1
    obtain ⟨f2, s2⟩ := Bool.and_eq_true_iff.mp c2
    exact ⟨d.py, e.py, hd.dp f1, he.dp f2, s1, s2, ok_bl hS q⟩
  · simp only [if_neg c] at q
    exact (show False from q).elim
theorem ok2_ne : Ok2 C (rNeD C.K) gNe := by
  intro W σ ρ H ro w d e x y Q hS hd he q
  unfold gNe at q
  by_cases c : (d.cmp && e.cmp) = true
  · simp only [if_pos c] at q
    obtain ⟨c1, c2⟩ := Bool.and_eq_true_iff.mp c
    obtain ⟨f1, s1⟩ := Bool.and_eq_true_iff.mp c1
    obtain ⟨f2, s2⟩ := Bool.and_eq_true_iff.mp c2
    exact ⟨d.py, e.py, hd.dp f1, he.dp f2, s1, s2, ok_bl hS q⟩
  · simp only [if_neg c] at q
    exact (show False from q).elim
theorem Seen.isNon {ρ : Zn} {H : Hp} {d : D} {v : V} (h : Seen C ρ H d v) : decide (v = .non) = d.isNon := by
  have nr : ∀ a, decide (V.ref a = .non) = false := fun a => decide_eq_false fun z => nomatch z
  rcases h with h | ⟨a, rfl, h⟩
  · cases d with
    | non => rw [show v = .non from h]; rfl
    | bl b => rw [show v = .bl b from h]; rfl
    | int b => rw [show v = .int b from h]; rfl
    | str b => rw [show v = .str b from h]; rfl
    | tup ds => obtain ⟨a, vs, rfl, _⟩ := h; exact nr a
    | lst ds => obtain ⟨a, vs, rfl, _⟩ := h; exact nr a
    | dic ks ds => obtain ⟨a, vs, rfl, _⟩ := h; exact nr a
    | dct ks ds => obtain ⟨a, _, _, _, _, rfl, _⟩ := h; exact nr a
    | ins c ns ds => obtain ⟨a, _, _, _, rfl, _⟩ := h; exact nr a
    | fn x => obtain ⟨a, _, rfl⟩ := h; exact nr a
    | rng x => obtain ⟨a, rfl, _⟩ := h; exact nr a
    | ref n => obtain ⟨a, _, rfl⟩ := h; exact nr a
  · rw [nr]
    cases d with
    | non => exact (show False from h).elim
    | _ => rfl
theorem ok2_isN : Ok2 C (fun x y H Q => y = .non ∧ Q (.bl (decide (x = .non))) H) gIsN := by
  intro W σ ρ H ro w d e x y Q hS hd he q
  cases e with
  | non =>
    refine ⟨he.non, ?_⟩
    rw [hd.isNon]
    exact ok_bl hS q
  | _ => exact (show False from q).elim
theorem ok2_notN : Ok2 C (fun x y H Q => y = .non ∧ Q (.bl (!decide (x = .non))) H) gNotN := by
  intro W σ ρ H ro w d e x y Q hS hd he q
  cases e with
  | non =>
    refine ⟨he.non, ?_⟩
    rw [hd.isNon]
    exact ok_bl hS q
  | _ => exact (show False from q).elim
end
end Fx
namespace Fx
open PySem PySem.Spec L2

section
variable {X : Cx} {C : Cfg} {W : WX} {pos p : Pos} {a b c e : Expr} {es : List Expr} {fa fb fc f : EF} {fs : Env → M (List D)}

/-! ### names, constants -/
def cVar (i : Nat) : EF := fun env _ w => match env[i]? with
  | some (some d) => .ok d w
  | _ => .no
theorem pf_var (i : Nat) {x : Str} (hN : X.N[i]? = some x := by rfl) (hv : Vis X.env.scope x := by first | exact Or.inl rfl | exact Or.inr (Or.inl rfl) | exact Or.inr (Or.inr rfl)) (hd : (x == ("__debug__" : Str)) = false := by decide)
    (hcd : (x == ("__classdict__" : Str)) = false := by decide) : PE X (.Name x pos) (tE C W (cVar i)) := pe_imp (pe_var hN hv hd hcd) fun σ H Q q => by
  obtain ⟨ρ, env, ro, w, hS, hE, q⟩ := q
  unfold cVar at q
  cases e : env[i]? with
  | none =>
    rw [e] at q
    exact (show False from q).elim
  | some o =>
    cases o with
    | none =>
      rw [e] at q
      exact (show False from q).elim
    | some d =>
      rw [e] at q
      obtain ⟨v, h1, h2⟩ := hE.at' i d e
      exact ⟨v, h1, ok_same hS h2 q⟩
def cK (d : D) : EF := fun _ => M.pure d
theorem pf_int {i j} : PE X (.Constant (.int i) j pos) (tE C W (cK (.int i))) := pe_imp pe_int fun σ H Q ⟨ρ, env, ro, w, hS, hE, q⟩ => ok_int hS q
theorem pf_bl {i j} : PE X (.Constant (.bool i) j pos) (tE C W (cK (.bl i))) := pe_imp pe_bl fun σ H Q ⟨ρ, env, ro, w, hS, hE, q⟩ => ok_bl hS q
theorem pf_str {i j} : PE X (.Constant (.str i) j pos) (tE C W (cK (.str i))) := pe_imp pe_str fun σ H Q ⟨ρ, env, ro, w, hS, hE, q⟩ => ok_str hS q
theorem pf_non {j} : PE X (.Constant .none j pos) (tE C W (cK .non)) := pe_imp pe_non fun σ H Q ⟨ρ, env, ro, w, hS, hE, q⟩ => ok_non hS q
/-- a constant of the module -/
def GK (C : Cfg) (x : Str) (d : D) : Prop := ∃ v u, C.mg x = some u ∧ RelV v u ∧ ∀ ρ H, Rep C ρ H d v
theorem pf_glob {x : Str} {d : D} (hg : Gl X x) (k : GK (cfg X) x d) (hd : (x == ("__debug__" : Str)) = false := by decide) : PE X (.Name x pos) (tE (cfg X) W (cK d)) := by
  obtain ⟨v, u, hm, r, h⟩ := k
  exact pe_imp (pe_glob hg hm r hd) fun σ H Q ⟨ρ, env, ro, w, hS, hE, q⟩ => ok_same hS (h ρ H) q

/-! ### arguments -/
def cArgs : List EF → Env → M (List D)
  | [] => fun _ => M.pure []
  | f :: r => fun env => M.bind (f env) fun d => M.bind (cArgs r env) fun ds => M.pure (d :: ds)
theorem cArgs_len : ∀ (fs : List EF) {env : Env} {ro w w' : List D} {ds : List D}, cArgs fs env ro w = .ok ds w' → ds.length = fs.length
  | [], env, ro, w, w', ds, h => by
    cases (show (Out.ok [] w : Out (List D)) = .ok ds w' from h)
    rfl
  | f :: r, env, ro, w, w', ds, h => by
    unfold cArgs M.bind at h
    cases e : f env ro w with
    | ok d w1 =>
      rw [e] at h
      cases e2 : cArgs r env ro w1 with
      | ok ds2 w2 =>
        simp only [e2] at h
        cases (show (Out.ok (d :: ds2) w2 : Out (List D)) = .ok ds w' from h)
        rw [List.length_cons, List.length_cons, cArgs_len r e2]
      | exn c ns xs w2 =>
        simp only [e2] at h
        cases h
      | no =>
        simp only [e2] at h
        cases h
    | exn c ns xs w2 =>
      rw [e] at h
      cases h
    | no =>
      rw [e] at h
      cases h
theorem pfa_nil : PA X [] (tA C W (cArgs [])) := pa_imp pa_nil fun σ H Q ⟨ρ, env, ro, w, hS, hE, q⟩ => q [] ρ H .refl hS rfl
theorem pfa_cons {gs : List EF} (ha : PE X e (tE C W f)) (hr : PA X es (tA C W (cArgs gs))) (hs : starEach (e :: es) X.env = (false, eval e X.env) :: starEach es X.env := by rfl) : PA X (e :: es) (tA C W (cArgs (f :: gs))) :=
  pa_imp (pa_cons ha hr hs) fun σ H Q ⟨ρ, env, ro, w, hS, hE, q⟩ => by
    refine tR_seq (g := fun d => M.bind (cArgs gs env) fun ds => M.pure (d :: ds)) hS hE q fun d w1 v ρ1 H1 x1 s1 r1 q1 => ?_
    refine tR_seq s1 (hE.ext x1) q1 fun ds w2 vs ρ2 H2 x2 s2 r2 q2 => ?_
    exact q2 (v :: vs) ρ2 H2 .refl s2 ⟨v, vs, rfl, Rep.ext x2 d r1, r2⟩

/-! ### built-ins by name -/
def OkL (C : Cfg) (r : List V → Hp → VK → Prop) (g : List D → M D) : Prop :=
  ∀ (W : WX) (σ : L2.St) (ρ : Zn) (H : Hp) (ro w : List D) (ds : List D) (xs : List V) (Q : VK), RepS C ρ H (ro ++ w) → Reps C ρ H ds xs → AfterR C (Rep C) W σ ρ H ro (g ds ro w) Q → r xs H Q
def Ok1 (C : Cfg) (r : List V → Hp → VK → Prop) (g : D → M D) : Prop :=
  ∀ (W : WX) (σ : L2.St) (ρ : Zn) (H : Hp) (ro w : List D) (d : D) (x : V) (Q : VK), RepS C ρ H (ro ++ w) → Seen C ρ H d x → AfterR C (Rep C) W σ ρ H ro (g d ro w) Q → r [x] H Q
def one (g : D → M D) : List D → M D
  | [d] => M.bind (M.see d) g
  | _ => M.no
theorem okL_one {r : List V → Hp → VK → Prop} {g : D → M D} (h : Ok1 C r g) : OkL C r (one g) := by
  intro W σ ρ H ro w ds xs Q hS hR q
  cases ds with
  | nil => exact (show False from q).elim
  | cons d ds =>
    cases ds with
    | cons _ _ => exact (show False from q).elim
    | nil =>
      obtain ⟨v, r', rfl, h1, h2⟩ := hR
      cases (show r' = [] from h2)
      exact h W σ ρ H ro w _ v Q hS (seen_of hS h1) q
def cCall (g : List D → M D) (fs : Env → M (List D)) : EF := fun env => M.bind (fs env) g
theorem tE_call {r : List V → Hp → VK → Prop} {g : List D → M D} (hr : OkL C r g) {σ : L2.St} {H : Hp} {Q : VK} (q : tE C W (cCall g fs) σ H Q) : tCB r (tA C W fs) σ H Q := by
  obtain ⟨ρ, env, ro, w, hS, hE, q⟩ := q
  exact tR_seq hS hE q fun ds w1 vs ρ1 H1 x1 s1 r1 q1 => hr W σ ρ1 H1 ro w1 ds vs Q s1 r1 q1
theorem pf_callB {id : String} {x : Str} {r : List V → Hp → VK → Prop} {g : List D → M D} (hc : CallR X (.builtin id) r) (hr : OkL C r g) (hg : Gl X x) (hm : X.mg x = none) (hv : bootBuiltins x = some (.builtin id)) (ha : PA X (e :: es) (tA C W fs))
    (hn : x ≠ "__name__" := by decide) (hdb : (x == ("__debug__" : Str)) = false := by decide) (he : starEach (e :: es) X.env = (false, eval e X.env) :: starEach es X.env := by rfl) (hpl : (backTo pos (starEach es X.env)).any (·.1) = false := by rfl) :
    PE X (.Call (.Name x p) (e :: es) [] pos) (tE C W (cCall g fs)) := pe_imp (pe_callB hc hg hm hv ha hn hdb he hpl) fun _ _ _ q => tE_call hr q
theorem pf_callTy {T : String} {x : Str} {r : List V → Hp → VK → Prop} {g : List D → M D} (hc : CallR X (.type T) r) (hr : OkL C r g) (hg : Gl X x) (hm : X.mg x = none) (hv : bootBuiltins x = some (.type T)) (ha : PA X (e :: es) (tA C W fs))
    (hn : x ≠ "__name__" := by decide) (hdb : (x == ("__debug__" : Str)) = false := by decide) (he : starEach (e :: es) X.env = (false, eval e X.env) :: starEach es X.env := by rfl) (hpl : (backTo pos (starEach es X.env)).any (·.1) = false := by rfl) :
    PE X (.Call (.Name x p) (e :: es) [] pos) (tE C W (cCall g fs)) := pe_imp (pe_callTy hc hg hm hv ha hn hdb he hpl) fun _ _ _ q => tE_call hr q

def rLen (K : PySem.W.Frag) : List V → Hp → VK → Prop := fun xs H Q => (∃ p ys, xs = [.ref p] ∧ (SqL K H p ys ∨ SqT K H p ys) ∧ Q (.int ys.length) H) ∨ (∃ z, xs = [.str z] ∧ z.length ≤ sizeLine ∧ Q (.int z.length) H) ∨ (∃ a kvs, xs = [V.ref a] ∧ H a = some (.dK kvs) ∧ Q (.int kvs.length) H)
theorem cf_len : CallR X (.builtin "len") (rLen X.K) := call_len_seq.or (call_len_str.or call_lenD)
def gLen : D → M D
  | .str x => fun _ w => if x.length ≤ sizeLine then .ok (.int x.length) w else .no
  | .tup ds => M.pure (.int ds.length)
  | .lst ds => M.pure (.int ds.length)
  | _ => M.no
theorem ok_len : Ok1 C (rLen C.K) gLen := by
  intro W σ ρ H ro w d x Q hS hd q
  cases d with
  | str z =>
    unfold gLen at q
    by_cases c : z.length ≤ sizeLine
    · simp only [if_pos c] at q
      exact .inr (.inl ⟨z, by rw [hd.str], c, ok_int hS q⟩)
    · simp only [if_neg c] at q
      exact (show False from q).elim
  | tup ds =>
    obtain ⟨a, vs, rfl, h, r⟩ := hd.tup
    refine .inl ⟨a, vs, rfl, .inr h, ?_⟩
    rw [← r.len]
    exact ok_int hS q
  | lst ds =>
    obtain ⟨a, vs, rfl, h, r⟩ := hd.lst
    refine .inl ⟨a, vs, rfl, .inl h, ?_⟩
    rw [← r.len]
    exact ok_int hS q
  | _ => exact (show False from q).elim
def rInt1 : List V → Hp → VK → Prop := fun xs H Q => (∃ i, xs = [.int i] ∧ Q (.int i) H) ∨ ∃ k, xs = [.bl k] ∧ Q (.int (if k then 1 else 0)) H
theorem cf_int : CallR X (.type "int") rInt1 := call_int1
def gInt : D → M D
  | .int i => M.pure (.int i)
  | .bl k => M.pure (.int (if k then 1 else 0))
  | _ => M.no
theorem ok_int1 : Ok1 C rInt1 gInt := by
  intro W σ ρ H ro w d x Q hS hd q
  cases d with
  | int i => exact .inl ⟨i, by rw [hd.int], ok_int hS q⟩
  | bl k => exact .inr ⟨k, by rw [hd.bl], ok_int hS q⟩
  | _ => exact (show False from q).elim
def rList (K : PySem.W.Frag) : List V → Hp → VK → Prop := fun xs H Q => ∃ p ys, xs = [.ref p] ∧ (SqL K H p ys ∨ SqT K H p ys) ∧ ∀ l, H l = none → Q (.ref l) (upd H l (.lst ys))
theorem cf_list : CallR X (.type "list") (rList X.K) := call_list_of
def gList : D → M D
  | .tup ds => M.pure (.lst ds)
  | .lst ds => M.pure (.lst ds)
  | _ => M.no
/-- a list that may change -/
def mNew (o : D) : M D := fun ro w => .ok (.ref (ro ++ w).length) (w ++ [o])
def gListM : D → M D
  | .tup ds => mNew (.lst ds)
  | .lst ds => mNew (.lst ds)
  | _ => M.no
theorem ok_list : Ok1 C (rList C.K) gList := by
  intro W σ ρ H ro w d x Q hS hd q
  cases d with
  | tup ds =>
    obtain ⟨a, vs, rfl, h, r⟩ := hd.tup
    exact ⟨a, vs, rfl, .inr h, ok_lst hS r q⟩
  | lst ds =>
    obtain ⟨a, vs, rfl, h, r⟩ := hd.lst
    exact ⟨a, vs, rfl, .inl h, ok_lst hS r q⟩
  | _ => exact (show False from q).elim
def rTuple (K : PySem.W.Frag) : List V → Hp → VK → Prop := fun xs H Q => ∃ p ys, xs = [.ref p] ∧ ((SqL K H p ys ∧ ∀ l, H l = none → Q (.ref l) (upd H l (.tup ys))) ∨ (SqT K H p ys ∧ Q (.ref p) H))
theorem cf_tuple : CallR X (.type "tuple") (rTuple X.K) := call_tuple_of
def gTuple : D → M D
  | .tup ds => M.pure (.tup ds)
  | .lst ds => M.pure (.tup ds)
  | _ => M.no
theorem ok_tuple : Ok1 C (rTuple C.K) gTuple := by
  intro W σ ρ H ro w d x Q hS hd q
  cases d with
  | tup ds =>
    obtain ⟨a, vs, rfl, h, r⟩ := hd.tup
    exact ⟨a, vs, rfl, .inr ⟨h, ok_same hS hd.tupR q⟩⟩
  | lst ds =>
    obtain ⟨a, vs, rfl, h, r⟩ := hd.lst
    exact ⟨a, vs, rfl, .inl ⟨h, ok_tup hS r q⟩⟩
  | _ => exact (show False from q).elim

/-! ### isinstance -/
inductive Ty where
  | non | bl | int | str | tup | lst | dic
  deriving DecidableEq
def Ty.name : Ty → String
  | .non => "NoneType" | .bl => "bool" | .int => "int" | .str => "str" | .tup => "tuple" | .lst => "list" | .dic => "dict"
def isTy : Ty → Ty → Bool
  | .bl, .int => true
  | a, b => decide (a = b)
theorem isTy_ok : ∀ a b : Ty, kitB a.name b.name = some (isTy a b) := by
  intro a b
  cases a <;> cases b <;> decide +kernel
def D.ty? : D → Option Ty
  | .non => some .non | .bl _ => some .bl | .int _ => some .int | .str _ => some .str | .tup _ => some .tup | .lst _ => some .lst | .dic _ _ => some .dic
  | _ => none
theorem Seen.tyx {ρ : Zn} {H : Hp} {d : D} {v : V} {t : Ty} (h : Seen C ρ H d v) (e : d.ty? = some t) : TyX C.K H v (.type t.name) := by
  cases d with
  | non => cases e; rw [h.non]; exact .base .non
  | bl b => cases e; rw [h.bl]; exact .base (.bl b)
  | int b => cases e; rw [h.int]; exact .base (.int b)
  | str b => cases e; rw [h.str]; exact .base (.str b)
  | tup ds =>
    cases e
    rcases h with ⟨a, vs, rfl, h | h, _⟩ | ⟨a, _, h⟩
    · rcases h.2 with h | ⟨o, h⟩
      · exact .base (.tup h)
      · exact .fTuple h
    · obtain ⟨o, its, n, hk, hc, _⟩ := h
      exact .kTuple hk hc
    · exact (show False from h).elim
  | lst ds =>
    cases e
    obtain ⟨a, vs, rfl, h, _⟩ := h.lst
    rcases h with (h | ⟨o, h⟩) | ⟨o, its, n, hk, hc, _⟩
    · exact .base (.lst h)
    · exact .base (.frz h)
    · exact .kList hk hc
  | dic ks ds =>
    cases e
    obtain ⟨a, vs, rfl, h, _⟩ := h.dic
    rcases h with h | ⟨o, h⟩
    · exact .base (.dK h)
    · exact .fDict h
  | _ => cases e
def gIsi (t : Ty) (d : D) : M D := match d.ty? with
  | some a => M.pure (.bl (isTy a t))
  | none => M.no
def cIsi (t : Ty) (f : EF) : EF := fun env => M.bind (f env) fun d => M.bind (M.see d) (gIsi t)
theorem pf_isi (t : Ty) {x : Str} {q : Pos} (hg : Gl X "isinstance") (hm : X.mg "isinstance" = none) (hgT : Gl X x) (hmT : X.mg x = none) (hvT : bootBuiltins x = some (.type t.name)) (ha : PE X a (tE (cfg X) W fa))
    (hnT : x ≠ "__name__" := by decide) (hdT : (x == ("__debug__" : Str)) = false := by decide) (hs1 : starEach [a, .Name x q] X.env = (false, eval a X.env) :: starEach [.Name x q] X.env := by rfl) (hpl : (backTo pos (starEach [.Name x q] X.env)).any (·.1) = false := by rfl) :
    PE X (.Call (.Name "isinstance" p) [a, .Name x q] [] pos) (tE (cfg X) W (cIsi t fa)) := by
  refine pe_imp (pe_callB call_isi hg hm PyProof.Rows.boot_isinstance (pa_cons ha (pa_cons (pe_bltn (v := .ty t.name) hgT hmT hvT rfl hnT hdT) pa_nil) hs1) (by decide) (by decide) hs1 hpl) fun σ H Q ⟨ρ, env, ro, w, hS, hE, q⟩ => ?_
  refine tR_seq hS hE q fun d w1 v ρ1 H1 x1 s1 r1 q1 => ?_
  replace q1 : AfterR (cfg X) (Rep (cfg X)) W σ ρ1 H1 ro (gIsi t (see ro w1 d) ro w1) Q := q1
  unfold gIsi at q1
  cases ht : (see ro w1 d).ty? with
  | none =>
    rw [ht] at q1
    exact (show False from q1).elim
  | some u =>
    rw [ht] at q1
    exact ⟨v, .ty t.name, .type u.name, .type t.name, isTy u t, rfl, .ty _, (seen_of s1 r1).tyx ht, kit_ty (isTy_ok u t), ok_bl s1 q1⟩

/-! ### subscripts, slices -/
def gIx (x y : D) : M D := match x, y with
  | .tup ds, .int i => fun _ w => match atI ds i with
    | some d => .ok d w
    | none => .no
  | .lst ds, .int i => fun _ w => match atI ds i with
    | some d => .ok d w
    | none => .no
  | .str z, .int i => fun _ w => if z.length ≤ sizeLine then (match atI z.cps.toList i with
    | some c => .ok (.str ⟨#[c]⟩) w
    | none => .no) else .no
  | _, _ => M.no
theorem Reps.atI {ρ : Zn} {H : Hp} {ds : List D} {vs : List V} {i : Int} {d : D} (r : Reps C ρ H ds vs) (h : L2.atI ds i = some d) : ∃ v, L2.atI vs i = some v ∧ Rep C ρ H d v := by
  unfold L2.atI at h ⊢
  rw [r.len] at h
  cases e : ixN vs.length i with
  | none =>
    rw [e] at h
    cases h
  | some j =>
    rw [e] at h
    exact r.get h
theorem ok2_ix : Ok2 C (rIx C.K) gIx := by
  intro W σ ρ H ro w d e x y Q hS hd he q
  cases d with
  | tup ds =>
    cases e with
    | int i =>
      unfold gIx at q
      cases ht : L2.atI ds i with
      | none =>
        simp only [ht] at q
        exact (show False from q).elim
      | some d' =>
        simp only [ht] at q
        obtain ⟨a, vs, rfl, h, r⟩ := hd.tup
        obtain ⟨v, h1, h2⟩ := r.atI ht
        exact .inr (.inl ⟨a, vs, i, v, rfl, he.int, h, h1, ok_same hS h2 q⟩)
    | _ => exact (show False from q).elim
  | lst ds =>
    cases e with
    | int i =>
      unfold gIx at q
      cases ht : L2.atI ds i with
      | none =>
        simp only [ht] at q
        exact (show False from q).elim
      | some d' =>
        simp only [ht] at q
        obtain ⟨a, vs, rfl, h, r⟩ := hd.lst
        obtain ⟨v, h1, h2⟩ := r.atI ht
        exact .inl ⟨a, vs, i, v, rfl, he.int, h, h1, ok_same hS h2 q⟩
    | _ => exact (show False from q).elim
  | str z =>
    cases e with
    | int i =>
      unfold gIx at q
      by_cases c : z.length ≤ sizeLine
      · simp only [if_pos c] at q
        cases ht : L2.atI z.cps.toList i with
        | none =>
          simp only [ht] at q
          exact (show False from q).elim
        | some d' =>
          simp only [ht] at q
          exact .inr (.inr ⟨z, i, d', hd.str, he.int, c, ht, ok_str hS q⟩)
      · simp only [if_neg c] at q
        exact (show False from q).elim
    | _ => exact (show False from q).elim
  | _ => exact (show False from q).elim
theorem pf_ix (ha : PE X a (tE (cfg X) W fa)) (hb : PE X b (tE (cfg X) W fb)) (hs : PlainIx b) : PE X (.Subscript a b pos) (tE (cfg X) W (cBin gIx fa fb)) := pe_imp (pe_ix ix_seq ha hb hs) fun _ _ _ q => tE_bin ok2_ix q

abbrev RO : Zn → Hp → Option Int → Option Int → Prop := fun _ _ a b => a = b
abbrev tO (C : Cfg) (W : WX) (f : Env → M (Option Int)) : L2.St → Hp → (Option Int → Hp → Prop) → Prop := tR C RO W f
def cNoPart : Env → M (Option Int) := fun _ => M.pure none
def cPart (f : EF) : Env → M (Option Int) := fun env => M.bind (f env) fun d => match d with
  | .int i => M.pure (some i)
  | _ => M.no
theorem pfo_none : PO X none (tO C W cNoPart) := ⟨fun pins s σ H Q I q => po_none.run pins s σ H Q I (by
  obtain ⟨ρ, env, ro, w, hS, hE, q⟩ := q
  exact q none ρ H .refl hS rfl)⟩
theorem pfo_some (h : PE X e (tE C W f)) : PO X (some e) (tO C W (cPart f)) := ⟨fun pins s σ H Q I q => (po_some h).run pins s σ H Q I (by
  obtain ⟨ρ, env, ro, w, hS, hE, q⟩ := q
  refine tR_seq hS hE q fun d w1 v ρ1 H1 x1 s1 r1 q1 => ?_
  cases d with
  | int i => exact ⟨i, r1, q1 (some i) ρ1 H1 .refl s1 rfl⟩
  | _ => exact (show False from q1).elim)⟩
def cut {α : Type} (xs : List α) (lo hi : Option Int) : List α := (xs.drop (HT.sIx xs.length 0 lo)).take (HT.sIx xs.length xs.length hi - HT.sIx xs.length 0 lo)
def gSl (x : D) (lo hi : Option Int) : M D := match x with
  | .lst ds => M.pure (.lst (cut ds lo hi))
  | .tup ds => M.pure (.tup (cut ds lo hi))
  | .str z => fun _ w => if z.length ≤ sizeLine then .ok (.str (cutS z lo hi)) w else .no
  | _ => M.no
def rSl (K : PySem.W.Frag) : V → Option Int → Option Int → Hp → VK → Prop := fun x lo hi H Q => rSlL K x lo hi H Q ∨ rSlA K x lo hi H Q ∨ rSlS x lo hi H Q
theorem sf_sl : SlR X (rSl X.K) := sl_list.or (sl_tupA.or sl_str)
def cSl (f : EF) (lo hi : Env → M (Option Int)) : EF := fun env => M.bind (f env) fun d => M.bind (lo env) fun i => M.bind (hi env) fun j => M.bind (M.see d) fun d' => gSl d' i j
theorem Reps.cut {ρ : Zn} {H : Hp} {ds : List D} {vs : List V} {lo hi : Option Int} (r : Reps C ρ H ds vs) : Reps C ρ H (cut ds lo hi) (cutV vs lo hi) := by
  unfold Fx.cut cutV
  rw [r.len]
  exact (r.drop _).take _
theorem cut_whole {α : Type} {xs : List α} {lo hi : Option Int} (h : HT.sIx xs.length 0 lo = 0 ∧ HT.sIx xs.length xs.length hi = xs.length) : cut xs lo hi = xs := by
  unfold cut
  rw [h.1, h.2, Nat.sub_zero, List.drop_zero]
  exact List.take_length
theorem pf_sl {lo hi : Option Expr} {p2 : Pos} {fl fh : Env → M (Option Int)} (ha : PE X a (tE (cfg X) W fa)) (hl : PO X lo (tO (cfg X) W fl)) (hh : PO X hi (tO (cfg X) W fh)) : PE X (.Subscript a (.Slice lo hi none p2) pos) (tE (cfg X) W (cSl fa fl fh)) := by
  refine pe_imp (pe_slice sf_sl ha hl hh) fun σ H Q ⟨ρ, env, ro, w, hS, hE, q⟩ => ?_
  refine tR_seq hS hE q fun d w1 v ρ1 H1 x1 s1 r1 q1 => ?_
  refine tR_seq s1 (hE.ext x1) q1 fun i w2 i' ρ2 H2 x2 s2 ei q2 => ?_
  refine tR_seq s2 ((hE.ext x1).ext x2) q2 fun j w3 j' ρ3 H3 x3 s3 ej q3 => ?_
  cases ei
  cases ej
  have sd := seen_of s3 (Rep.ext x3 d (Rep.ext x2 d r1))
  replace q3 : AfterR (cfg X) (Rep (cfg X)) W σ ρ3 H3 ro (gSl (see ro w3 d) i j ro w3) Q := q3
  generalize see ro w3 d = d3 at sd q3
  cases d3 with
  | lst ds =>
    obtain ⟨a, vs, rfl, h, r⟩ := sd.lst
    exact .inl ⟨a, vs, rfl, h, ok_lst s3 r.cut q3⟩
  | tup ds =>
    obtain ⟨a, vs, rfl, h, r⟩ := sd.tup
    refine .inr (.inl ⟨a, vs, rfl, h, fun z => ?_, fun z => ok_tup s3 r.cut q3⟩)
    have z' : HT.sIx ds.length 0 i = 0 ∧ HT.sIx ds.length ds.length j = ds.length := by
      rw [r.len]
      exact z
    unfold gSl at q3
    simp only [cut_whole z'] at q3
    exact ok_same s3 sd.tupR q3
  | str z =>
    unfold gSl at q3
    by_cases c : z.length ≤ sizeLine
    · simp only [if_pos c] at q3
      exact .inr (.inr ⟨z, sd.str, c, ok_str s3 q3⟩)
    · simp only [if_neg c] at q3
      exact (show False from q3).elim
  | _ => exact (show False from q3).elim

/-! ### displays -/
def cTup (fs : Env → M (List D)) : EF := fun env => M.bind (fs env) fun ds => M.pure (.tup ds)
def cLst (fs : Env → M (List D)) : EF := fun env => M.bind (fs env) fun ds => M.pure (.lst ds)
def cLstM (fs : Env → M (List D)) : EF := fun env => M.bind (fs env) fun ds => mNew (.lst ds)
theorem tE_disp {g : List D → M D} {gs : List EF} {σ : L2.St} {H : Hp} {Q : VK} {K : List V → Hp → Prop} (q : tE C W (fun env => M.bind (cArgs gs env) g) σ H Q)
    (k : ∀ ds w1 vs ρ1 H1 ro, ds.length = gs.length → RepS C ρ1 H1 (ro ++ w1) → Reps C ρ1 H1 ds vs → AfterR C (Rep C) W σ ρ1 H1 ro (g ds ro w1) Q → K vs H1) : tA C W (cArgs gs) σ H K := by
  obtain ⟨ρ, env, ro, w, hS, hE, q⟩ := q
  replace q : AfterR C (Rep C) W σ ρ H ro (M.bind (cArgs gs env) g ro w) Q := q
  unfold M.bind at q
  refine ⟨ρ, env, ro, w, hS, hE, ?_⟩
  cases e : cArgs gs env ro w with
  | ok d w1 =>
    rw [e] at q
    exact fun v ρ1 H1 x s r => k d w1 v ρ1 H1 ro (cArgs_len gs e) s r (AfterR.ext x q)
  | exn c ns xs w1 =>
    rw [e] at q
    exact q
  | no =>
    rw [e] at q
    exact q
theorem pf_tup {k} {gs : List EF} (h : PA X es (tA C W (cArgs gs))) (hl : gs.length ≤ 1000 := by exact Nat.le_of_ble_eq_true rfl) : PE X (.Tuple es k pos) (tE C W (cTup (cArgs gs))) := pe_imp (pe_tup h) fun σ H Q q =>
  tE_disp q fun ds w1 vs ρ1 H1 ro e s r q1 => ⟨by rw [← r.len, e]; exact Nat.le_of_lt (small1000 hl), ok_tup s r q1⟩
theorem pf_lst {gs : List EF} (h : PA X es (tA C W (cArgs gs))) (hl : gs.length ≤ 1000 := by exact Nat.le_of_ble_eq_true rfl) : PE X (.List es pos) (tE C W (cLst (cArgs gs))) := pe_imp (pe_lst h) fun σ H Q q =>
  tE_disp q fun ds w1 vs ρ1 H1 ro e s r q1 => ⟨by rw [← r.len, e]; exact Nat.le_of_lt (small1000 hl), ok_lst s r q1⟩
theorem pf_lstM {gs : List EF} (h : PA X es (tA C W (cArgs gs))) (hl : gs.length ≤ 1000 := by exact Nat.le_of_ble_eq_true rfl) : PE X (.List es pos) (tE C W (cLstM (cArgs gs))) := pe_imp (pe_lst h) fun σ H Q q =>
  tE_disp q fun ds w1 vs ρ1 H1 ro e s r q1 => ⟨by rw [← r.len, e]; exact Nat.le_of_lt (small1000 hl), ok_newL s r q1⟩

/-! ### and, or, not, if -/
def cAnd (fa fb : EF) : EF := fun env => M.bind (fa env) fun d => match d with
  | .bl true => fb env
  | .bl false => M.pure (.bl false)
  | _ => M.no
def cOr (fa fb : EF) : EF := fun env => M.bind (fa env) fun d => match d with
  | .bl true => M.pure (.bl true)
  | .bl false => fb env
  | _ => M.no
def cNot (fa : EF) : EF := fun env => M.bind (fa env) fun d => match d with
  | .bl b => M.pure (.bl (!b))
  | _ => M.no
variable {rest : List Expr}
theorem pf_one {op} (h : PE X a (tE C W fa)) : PE X (.BoolOp op [a] pos) (tE C W fa) := pe_one h
theorem pf_and (ha : PE X a (tE C W fa)) (hb : PE X (.BoolOp .And (b :: rest) pos) (tE C W fb)) : PE X (.BoolOp .And (a :: b :: rest) pos) (tE C W (cAnd fa fb)) := pe_imp (pe_and ha hb) fun σ H Q ⟨ρ, env, ro, w, hS, hE, q⟩ => by
  refine tR_seq hS hE q fun d w1 v ρ1 H1 x1 s1 r1 q1 => ?_
  cases d with
  | bl k =>
    refine ⟨k, r1, ?_⟩
    cases k with
    | true => exact ⟨ρ1, env, ro, w1, s1, hE.ext x1, q1⟩
    | false => exact ok_bl s1 q1
  | _ => exact (show False from q1).elim
theorem pf_or (ha : PE X a (tE C W fa)) (hb : PE X (.BoolOp .Or (b :: rest) pos) (tE C W fb)) : PE X (.BoolOp .Or (a :: b :: rest) pos) (tE C W (cOr fa fb)) := pe_imp (pe_or ha hb) fun σ H Q ⟨ρ, env, ro, w, hS, hE, q⟩ => by
  refine tR_seq hS hE q fun d w1 v ρ1 H1 x1 s1 r1 q1 => ?_
  cases d with
  | bl k =>
    refine ⟨k, r1, ?_⟩
    cases k with
    | true => exact ok_bl s1 q1
    | false => exact ⟨ρ1, env, ro, w1, s1, hE.ext x1, q1⟩
  | _ => exact (show False from q1).elim
theorem pf_not (ha : PE X a (tE C W fa)) : PE X (.UnaryOp .Not a pos) (tE C W (cNot fa)) := pe_imp (pe_not ha) fun σ H Q ⟨ρ, env, ro, w, hS, hE, q⟩ => by
  refine tR_seq hS hE q fun d w1 v ρ1 H1 x1 s1 r1 q1 => ?_
  cases d with
  | bl k => exact ⟨k, r1, ok_bl s1 q1⟩
  | _ => exact (show False from q1).elim
def gNeg : D → M D
  | .int i => M.pure (.int (-i))
  | _ => M.no
def cUn (g : D → M D) (f : EF) : EF := fun env => M.bind (f env) g
theorem pf_neg (ha : PE X a (tE C W fa)) : PE X (.UnaryOp .USub a pos) (tE C W (cUn gNeg fa)) := pe_imp (pe_un un_neg ha) fun σ H Q ⟨ρ, env, ro, w, hS, hE, q⟩ => by
  refine tR_seq hS hE q fun d w1 v ρ1 H1 x1 s1 r1 q1 => ?_
  cases d with
  | int i => exact ⟨i, r1, ok_int s1 q1⟩
  | _ => exact (show False from q1).elim

/-! tests -/
def cNotT (f : Env → M Bool) : Env → M Bool := fun env => M.bind (f env) fun b => M.pure (!b)
def cAndT (f g : Env → M Bool) : Env → M Bool := fun env => M.bind (f env) fun b => if b = true then g env else M.pure false
def cOrT (f g : Env → M Bool) : Env → M Bool := fun env => M.bind (f env) fun b => if b = true then M.pure true else g env
variable {ta tb : Env → M Bool}
theorem pt_cmpF {op : CmpOp} {r : R2} {g : D → D → M D} (ho : OpR X (compareOp op) r) (hr : Ok2 C r g) (ha : PE X a (tE C W fa)) (hb : PE X b (tE C W fb)) (hm : behindInMarks op b = false) : PT X (.Compare a [op] [b] pos) (tT C W (cTest (cBin g fa fb))) :=
  pt_imp (pt_cmpR ho ha hb hm) fun σ H Q ⟨ρ, env, ro, w, hS, hE, q⟩ => by
    refine tE_bin hr ⟨ρ, env, ro, w, hS, hE, ?_⟩
    unfold cTest M.bind at q
    cases e : cBin g fa fb env ro w with
    | ok d w1 =>
      rw [e] at q
      intro v ρ1 H1 x1 s1 r1
      cases d with
      | bl k => exact ⟨k, r1, q k ρ1 H1 x1 s1 rfl⟩
      | _ => exact (show False from q).elim
    | exn c ns xs w1 =>
      rw [e] at q
      exact q
    | no =>
      rw [e] at q
      exact q
/-- any other test: a truth value -/
def M.truth : D → M Bool
  | .bl b => M.pure b
  | .non => M.pure false
  | .int i => M.pure (i != 0)
  | .lst ds => M.pure (!ds.isEmpty)
  | .tup ds => M.pure (!ds.isEmpty)
  | .str x => fun _ w => if x.length ≤ sizeLine then .ok ((x.length : Int) != 0) w else .no
  | _ => M.no
def cTru (f : EF) : Env → M Bool := fun env => M.bind (f env) fun d => M.bind (M.see d) M.truth
theorem Reps.isEmpty {ρ : Zn} {H : Hp} {ds : List D} {vs : List V} (r : Reps C ρ H ds vs) : (!ds.isEmpty) = !vs.isEmpty := by
  have := r.len
  cases ds <;> cases vs <;> first | rfl | simp at this
theorem pt_tru (ha : PE X a (tE (cfg X) W fa)) (he : ∀ whole, isTrue a X.env whole = (do let v ← whole; standAt a.pos; holding [v] (truthy v)) := by intro _; rfl) : PT X a (tT (cfg X) W (cTru fa)) :=
  pt_imp (pt_truth ha he) fun σ H Q ⟨ρ, env, ro, w, hS, hE, q⟩ => by
    refine tR_seq hS hE q fun d w1 v ρ1 H1 x1 s1 r1 q1 => ?_
    replace q1 : AfterR (cfg X) RB W σ ρ1 H1 ro (M.truth (see ro w1 d) ro w1) Q := q1
    have sd := seen_of s1 r1
    generalize see ro w1 d = d3 at sd q1
    cases d3 with
    | bl k => rw [sd.bl]; exact ⟨k, rfl, q1 k ρ1 H1 .refl s1 rfl⟩
    | non => rw [sd.non]; exact ⟨false, rfl, q1 _ ρ1 H1 .refl s1 rfl⟩
    | int i => rw [sd.int]; exact ⟨_, rfl, q1 _ ρ1 H1 .refl s1 rfl⟩
    | str z =>
      unfold M.truth at q1
      by_cases c : z.length ≤ sizeLine
      · simp only [if_pos c] at q1
        rw [sd.str]
        exact ⟨_, ⟨c, rfl⟩, q1 _ ρ1 H1 .refl s1 rfl⟩
      · simp only [if_neg c] at q1
        exact (show False from q1).elim
    | lst ds =>
      obtain ⟨p, vs, rfl, h, r⟩ := sd.lst
      exact ⟨_, .inl ⟨vs, h, rfl⟩, q1 _ ρ1 H1 .refl s1 r.isEmpty⟩
    | tup ds =>
      obtain ⟨p, vs, rfl, h, r⟩ := sd.tup
      exact ⟨_, .inr (.inl ⟨vs, h, rfl⟩), q1 _ ρ1 H1 .refl s1 r.isEmpty⟩
    | _ => exact (show False from q1).elim
theorem pw_and1F (ha : PT X a (tT C W ta)) : PW X (.BoolOp .And [a] pos) (tT C W ta) := pw_and1 ha
theorem pw_or1F (ha : PT X a (tT C W ta)) : PW X (.BoolOp .Or [a] pos) (tT C W ta) := pw_or1 ha
theorem pw_imp {t t' : TT} (h : PW X e t) (i : ∀ σ H Q, t' σ H Q → t σ H Q) : PW X e t' := ⟨fun wh pins s σ H Q I q => h.run wh pins s σ H Q I (i σ H Q q)⟩
theorem pw_andF (ha : PT X a (tT C W ta)) (hb : PW X (.BoolOp .And (b :: rest) pos) (tT C W tb)) : PW X (.BoolOp .And (a :: b :: rest) pos) (tT C W (cAndT ta tb)) := pw_imp (pw_and ha hb) fun σ H Q ⟨ρ, env, ro, w, hS, hE, q⟩ => by
  refine tR_seq hS hE q fun d w1 v ρ1 H1 x1 s1 r1 q1 => ?_
  cases (show d = v from r1)
  cases d with
  | true => exact ⟨ρ1, env, ro, w1, s1, hE.ext x1, q1⟩
  | false => exact q1 false ρ1 H1 .refl s1 rfl
theorem pw_orF (ha : PT X a (tT C W ta)) (hb : PW X (.BoolOp .Or (b :: rest) pos) (tT C W tb)) : PW X (.BoolOp .Or (a :: b :: rest) pos) (tT C W (cOrT ta tb)) := pw_imp (pw_or ha hb) fun σ H Q ⟨ρ, env, ro, w, hS, hE, q⟩ => by
  refine tR_seq hS hE q fun d w1 v ρ1 H1 x1 s1 r1 q1 => ?_
  cases (show d = v from r1)
  cases d with
  | true => exact q1 true ρ1 H1 .refl s1 rfl
  | false => exact ⟨ρ1, env, ro, w1, s1, hE.ext x1, q1⟩
theorem pt_notF (ha : PT X a (tT C W ta)) : PT X (.UnaryOp .Not a pos) (tT C W (cNotT ta)) := pt_imp (pt_not ha) fun σ H Q ⟨ρ, env, ro, w, hS, hE, q⟩ => by
  refine tR_seq hS hE q fun d w1 v ρ1 H1 x1 s1 r1 q1 => ?_
  cases (show d = v from r1)
  exact q1 (!d) ρ1 H1 .refl s1 rfl
def cIf (t : Env → M Bool) (fa fb : EF) : EF := fun env => M.bind (t env) fun b => if b = true then fa env else fb env
theorem pf_if (hc : PT X c (tT C W ta)) (ha : PE X a (tE C W fa)) (hb : PE X b (tE C W fb)) : PE X (.IfExp c a b pos) (tE C W (cIf ta fa fb)) := pe_imp (pe_ifExp hc ha hb) fun σ H Q ⟨ρ, env, ro, w, hS, hE, q⟩ => by
  refine tR_seq hS hE q fun d w1 v ρ1 H1 x1 s1 r1 q1 => ?_
  cases (show d = v from r1)
  cases d with
  | true => exact ⟨ρ1, env, ro, w1, s1, hE.ext x1, q1⟩
  | false => exact ⟨ρ1, env, ro, w1, s1, hE.ext x1, q1⟩
end
end Fx
namespace Fx
open PySem PySem.Spec L2

/-! ### statements -/
inductive Fl where
  | nx | rt (d : D) | bk | ct
inductive OS where
  | go (fl : Fl) (env : Env) (w : List D)
  | exn (c : Str) (ns : List Str) (xs : List D) (env : Env) (w : List D)
  | no
abbrev SF := Env → List D → List D → OS
def AfterS (C : Cfg) (W : WX) (ρ : Zn) (H : Hp) (ro : List D) (o : OS) (D : Ends) : Prop :=
  match o with
  | .go .nx env w => ∀ σ' ρ' H', Ext ρ ρ' H H' → RepS C ρ' H' (ro ++ w) → RepE C ρ' H' env σ' → D.nx σ' H'
  | .go (.rt d) env w => ∀ v ρ' H', Ext ρ ρ' H H' → RepS C ρ' H' (ro ++ w) → Rep C ρ' H' d v → D.rt v H'
  | .go .bk env w => ∀ σ' ρ' H', Ext ρ ρ' H H' → RepS C ρ' H' (ro ++ w) → RepE C ρ' H' env σ' → D.bk σ' H'
  | .go .ct env w => ∀ σ' ρ' H', Ext ρ ρ' H H' → RepS C ρ' H' (ro ++ w) → RepE C ρ' H' env σ' → D.ct σ' H'
  | .exn c ns xs env w => ∀ cls dx σ' ρ' H', Ext ρ ρ' H H' → RepS C ρ' H' (ro ++ w) → RepE C ρ' H' env σ' → RepX C ρ' H' c ns xs cls dx → W cls dx σ' H'
  | .no => False
def tS (C : Cfg) (W : WX) (f : SF) : TS := fun D σ H => ∃ ρ env ro w, RepS C ρ H (ro ++ w) ∧ RepE C ρ H env σ ∧ AfterS C W ρ H ro (f env ro w) D

section
variable {C : Cfg} {W : WX} {ρ ρ' : Zn} {H H' : Hp} {ro w : List D} {σ : L2.St} {env : Env}
theorem AfterS.ext {o : OS} {D : Ends} (x : Ext ρ ρ' H H') (h : AfterS C W ρ H ro o D) : AfterS C W ρ' H' ro o D := by
  cases o with
  | go fl env w =>
    cases fl with
    | nx => exact fun σ2 ρ2 H2 y hS hE => h σ2 ρ2 H2 (x.trans y) hS hE
    | rt d => exact fun v ρ2 H2 y hS hR => h v ρ2 H2 (x.trans y) hS hR
    | bk => exact fun σ2 ρ2 H2 y hS hE => h σ2 ρ2 H2 (x.trans y) hS hE
    | ct => exact fun σ2 ρ2 H2 y hS hE => h σ2 ρ2 H2 (x.trans y) hS hE
  | exn c ns xs env w => exact fun cls dx σ2 ρ2 H2 y hS hE hX => h cls dx σ2 ρ2 H2 (x.trans y) hS hE hX
  | no => exact h
theorem RepE.set {i : Nat} {d : D} {v : V} (h : RepE C ρ H env σ) (r : Rep C ρ H d v) : RepE C ρ H (env.set i (some d)) (σ.set i (some v)) := by
  refine ⟨by simp [h.len], fun j e q => ?_⟩
  by_cases hj : i = j
  · subst hj
    have hl := (List.getElem?_eq_some_iff.mp q).1
    rw [List.length_set] at hl
    rw [List.getElem?_set_self hl] at q
    cases q
    exact ⟨v, by rw [List.getElem?_set_self (by rw [← h.len]; exact hl)], r⟩
  · rw [List.getElem?_set_ne hj] at q
    obtain ⟨u, h1, h2⟩ := h.at' j e q
    exact ⟨u, by rw [List.getElem?_set_ne hj]; exact h1, h2⟩
def sLift {α : Type} (f : Env → M α) (k : α → SF) : SF := fun env ro w => match f env ro w with
  | .ok a w' => k a env ro w'
  | .exn c ns xs w' => .exn c ns xs env w'
  | .no => .no
theorem lift_after {α β : Type} {R : Zn → Hp → α → β → Prop} {f : Env → M α} {k : α → SF} {D : Ends} {K : β → Hp → Prop} (hE : RepE C ρ H env σ) (h : AfterS C W ρ H ro (sLift f k env ro w) D)
    (kk : ∀ d w1 v ρ1 H1, Ext ρ ρ1 H H1 → RepS C ρ1 H1 (ro ++ w1) → RepE C ρ1 H1 env σ → R ρ1 H1 d v → AfterS C W ρ1 H1 ro (k d env ro w1) D → K v H1) : AfterR C R W σ ρ H ro (f env ro w) K := by
  unfold sLift at h
  cases e : f env ro w with
  | ok d w1 =>
    rw [e] at h
    exact fun v ρ1 H1 x s r => kk d w1 v ρ1 H1 x s (hE.ext x) r (AfterS.ext x h)
  | exn c ns xs w1 =>
    rw [e] at h
    exact fun cls dx ρ1 H1 x s r => h cls dx σ ρ1 H1 x s (hE.ext x) r
  | no =>
    rw [e] at h
    exact h
theorem tS_seq {α β : Type} {R : Zn → Hp → α → β → Prop} {f : Env → M α} {k : α → SF} {D : Ends} {K : β → Hp → Prop} (hS : RepS C ρ H (ro ++ w)) (hE : RepE C ρ H env σ) (h : AfterS C W ρ H ro (sLift f k env ro w) D)
    (kk : ∀ d w1 v ρ1 H1, Ext ρ ρ1 H H1 → RepS C ρ1 H1 (ro ++ w1) → RepE C ρ1 H1 env σ → R ρ1 H1 d v → AfterS C W ρ1 H1 ro (k d env ro w1) D → K v H1) : tR C R W f σ H K := ⟨ρ, env, ro, w, hS, hE, lift_after hE h kk⟩
end

theorem ps_imp {X : Cx} {st : Stmt} {t t' : TS} (h : PS X st t) (i : ∀ D σ H, t' D σ H → t D σ H) : PS X st t' := ⟨fun pins s σ H D I q => h.run pins s σ H D I (i D σ H q)⟩
theorem pss_imp {X : Cx} {st : List Stmt} {t t' : TS} (h : PSs X st t) (i : ∀ D σ H, t' D σ H → t D σ H) : PSs X st t' := ⟨fun pins s σ H D I q => h.run pins s σ H D I (i D σ H q)⟩

section
variable {X : Cx} {C : Cfg} {W : WX} {pos p : Pos} {a b c e o : Expr} {es : List Expr} {st : Stmt} {sts : List Stmt} {fa fb fc f : EF} {s t : SF} {ta : Env → M Bool}
def sNil : SF := fun env _ w => .go .nx env w
def sSeq (s t : SF) : SF := fun env ro w => match s env ro w with
  | .go .nx env' w' => t env' ro w'
  | o => o
theorem fs_nil : PSs X [] (tS C W sNil) := pss_imp pss_nil fun D σ H ⟨ρ, env, ro, w, hS, hE, q⟩ => q σ ρ H .refl hS hE
theorem fs_cons (h1 : PS X st (tS C W s)) (h2 : PSs X sts (tS C W t)) : PSs X (st :: sts) (tS C W (sSeq s t)) := pss_imp (pss_cons h1 h2) fun D σ H ⟨ρ, env, ro, w, hS, hE, q⟩ => by
  refine ⟨ρ, env, ro, w, hS, hE, ?_⟩
  unfold sSeq at q
  cases e : s env ro w with
  | go fl env1 w1 =>
    rw [e] at q
    cases fl with
    | nx => exact fun σ1 ρ1 H1 x1 s1 e1 => ⟨ρ1, env1, ro, w1, s1, e1, AfterS.ext x1 q⟩
    | rt d => exact q
    | bk => exact q
    | ct => exact q
  | exn c ns xs env1 w1 =>
    rw [e] at q
    exact q
  | no =>
    rw [e] at q
    exact q
theorem fs_one (h1 : PS X st (tS C W s)) : PSs X [st] (tS C W s) := pss_one h1
def sPass : SF := sNil
def sBrk : SF := fun env _ w => .go .bk env w
def sCnt : SF := fun env _ w => .go .ct env w
def sSet (i : Nat) (f : EF) : SF := sLift f fun d env _ w => .go .nx (env.set i (some d)) w
theorem f_set (i : Nat) {x : Str} {pos' : Pos} (hN : X.N.Nodup) (he : PE X e (tE C W f)) (hi : X.N[i]? = some x := by rfl) (hx : Loc X.env.scope x := by first | exact Or.inl rfl | exact Or.inr rfl) (hs : swapsWith e (some (.Name x pos')) pos.line X.env = pure false := by rfl) (hf : X.fn x = true ∨ X.env.scope.names.lookup x = some .local := by first | exact .inl rfl | exact .inr rfl) :
    PS X (.Assign [.Name x pos'] e pos) (tS C W (sSet i f)) := ps_imp (ps_set hN hi hx he hs hf) fun D σ H ⟨ρ, env, ro, w, hS, hE, q⟩ =>
  tS_seq hS hE q fun d w1 v ρ1 H1 x1 s1 e1 r1 q1 => q1 _ ρ1 H1 .refl s1 (e1.set r1)
def sRet (f : EF) : SF := sLift f fun d env _ w => .go (.rt d) env w
theorem f_ret (he : PE X e (tE C W f)) : PS X (.Return (some e) pos) (tS C W (sRet f)) := ps_imp (ps_ret he) fun D σ H ⟨ρ, env, ro, w, hS, hE, q⟩ =>
  tS_seq hS hE q fun d w1 v ρ1 H1 x1 s1 e1 r1 q1 => q1 v ρ1 H1 .refl s1 r1
def sRetN : SF := fun env _ w => .go (.rt .non) env w
def sExpr (f : EF) : SF := sLift f fun _ env _ w => .go .nx env w
theorem f_expr (he : PE X e (tE C W f)) (hs : swapsWith e none pos.line X.env = pure false := by rfl) : PS X (.Expr e pos) (tS C W (sExpr f)) := ps_imp (ps_expr he hs) fun D σ H ⟨ρ, env, ro, w, hS, hE, q⟩ =>
  tS_seq hS hE q fun d w1 v ρ1 H1 x1 s1 e1 r1 q1 => q1 σ ρ1 H1 .refl s1 e1
def sIf (ta : Env → M Bool) (s t : SF) : SF := sLift ta fun b => if b = true then s else t
theorem f_if {as bs : List Stmt} (hc : PT X c (tT C W ta)) (ha : PSs X as (tS C W s)) (hb : PSs X bs (tS C W t)) : PS X (.If c as bs pos) (tS C W (sIf ta s t)) := ps_imp (ps_if hc ha hb) fun D σ H ⟨ρ, env, ro, w, hS, hE, q⟩ => by
  refine tS_seq hS hE q fun d w1 v ρ1 H1 x1 s1 e1 r1 q1 => ?_
  cases (show d = v from r1)
  cases d with
  | true => exact ⟨ρ1, env, ro, w1, s1, e1, q1⟩
  | false => exact ⟨ρ1, env, ro, w1, s1, e1, q1⟩
/-- x op= e -/
def sAug (i : Nat) (g : D → D → M D) (f : EF) : SF := sLift (cVar i) fun x => sLift f fun y => sLift (fun _ => M.bind (M.see x) fun x' => M.bind (M.see y) fun y' => g x' y') fun z env _ w => .go .nx (env.set i (some z)) w
/-! ### a list that changes -/
def mMod (f : List D → Option (D × List D)) : D → M D
  | .ref n => fun ro w => if n < ro.length then .no else match w[n - ro.length]? with
    | some (.lst ds) => (match f ds with
      | some (d, ds') => .ok d (w.set (n - ro.length) (.lst ds'))
      | none => .no)
    | _ => .no
  | _ => M.no
/-- what it asks -/
theorem mMod_ok {f : List D → Option (D × List D)} {d : D} {x : V} {ρ : Zn} {H : Hp} {ro w : List D} {σ : L2.St} {Q : VK} (hS : RepS C ρ H (ro ++ w)) (hd : Rep C ρ H d x) (q : AfterR C (Rep C) W σ ρ H ro (mMod f d ro w) Q) :
    ∃ a vs ds r ds', x = .ref a ∧ H a = some (.lst vs) ∧ Reps C ρ H ds vs ∧ f ds = some (r, ds') ∧
      ∀ v vs', Rep C ρ H r v → Reps C ρ H ds' vs' → Q v (upd H a (.lst vs')) := by
  cases d with
  | ref n =>
    unfold mMod at q
    by_cases c : n < ro.length
    · simp only [if_pos c] at q
      exact (show False from q).elim
    · simp only [if_neg c] at q
      obtain ⟨a, ha, rfl⟩ := hd
      cases e : w[n - ro.length]? with
      | none =>
        rw [e] at q
        exact (show False from q).elim
      | some o =>
        rw [e] at q
        cases o with
        | lst ds =>
          have hn : (ro ++ w)[n]? = some (.lst ds) := by
            rw [List.getElem?_append_right (by omega)]
            exact e
          obtain ⟨vs, hv, r⟩ := hS.obj n a _ ha hn
          cases ef : f ds with
          | none =>
            simp only [ef] at q
            exact (show False from q).elim
          | some z =>
            obtain ⟨r', ds'⟩ := z
            simp only [ef] at q
            refine ⟨a, vs, ds, r', ds', rfl, hv, r, ef, fun v vs' hr hvs => ?_⟩
            exact ok_put (o := .lst vs') (d := .lst ds') hS c ha (fun H' x' e' => ⟨vs', e', Reps.ext x' ds' hvs⟩) hr q
        | _ => exact (show False from q).elim
  | _ => exact (show False from q).elim
/-- o.m(..) of a list: o is looked at ahead of the arguments -/
def cMl (g : List D → D → M D) (fo : EF) (fs : Env → M (List D)) : EF := fun env => M.bind (fo env) fun o => M.bind (M.see o) fun o' => match o' with
  | .lst _ => M.bind (fs env) fun ds => g ds o
  | _ => M.no
def OkM (C : Cfg) (r : V → List V → Hp → VK → Prop) (g : List D → D → M D) : Prop :=
  ∀ (W : WX) (σ : L2.St) (ρ : Zn) (H : Hp) (ro w : List D) (d : D) (x : V) (ds : List D) (xs : List V) (Q : VK), RepS C ρ H (ro ++ w) → Rep C ρ H d x → Reps C ρ H ds xs → AfterR C (Rep C) W σ ρ H ro (g ds d ro w) Q → r x xs H Q
theorem tE_ml {r : V → List V → Hp → VK → Prop} {g : List D → D → M D} {fo : EF} {fs : Env → M (List D)} (hr : OkM (cfg X) r g) {σ : L2.St} {H : Hp} {Q : VK} (q : tE (cfg X) W (cMl g fo fs) σ H Q) :
    tBM X.K "list" r (tE (cfg X) W fo) (tA (cfg X) W fs) σ H Q := by
  obtain ⟨ρ, env, ro, w, hS, hE, q⟩ := q
  refine tR_seq hS hE q fun d w1 v ρ1 H1 x1 s1 r1 q1 => ?_
  replace q1 : AfterR (cfg X) (Rep (cfg X)) W σ ρ1 H1 ro ((match see ro w1 d with
    | .lst _ => M.bind (fs env) fun ds => g ds d
    | _ => M.no) ro w1) Q := q1
  have sd := seen_of s1 r1
  generalize see ro w1 d = d3 at sd q1
  cases d3 with
  | lst ds =>
    obtain ⟨a, vs, rfl, h, r⟩ := sd.lst
    refine ⟨.inl ⟨rfl, vs, h⟩, ?_⟩
    refine tR_seq s1 (hE.ext x1) q1 fun es w2 us ρ2 H2 x2 s2 r2 q2 => ?_
    exact hr W σ ρ2 H2 ro w2 d _ es us Q s2 (Rep.ext x2 d r1) r2 q2
  | _ => exact (show False from q1).elim
def gAppend (ds : List D) : D → M D := mMod fun es => match ds with
  | [d] => if es.length < sizeLine then some (.non, es ++ [d]) else none
  | _ => none
theorem okm_append : OkM C rAppend gAppend := by
  intro W σ ρ H ro w d x ds xs Q hS hd hds q
  obtain ⟨a, vs, es, r, es', rfl, hv, hr, hf, k⟩ := mMod_ok hS hd q
  cases ds with
  | nil => cases hf
  | cons d' ds =>
    cases ds with
    | cons _ _ => cases hf
    | nil =>
      obtain ⟨v, r', rfl, h1, h2⟩ := hds
      cases (show r' = [] from h2)
      replace hf : (if es.length < sizeLine then some (D.non, es ++ [d']) else none) = some (r, es') := hf
      by_cases c : es.length < sizeLine
      · rw [if_pos c] at hf
        cases hf
        exact ⟨a, vs, v, rfl, rfl, hv, by rw [← hr.len]; exact c, k .non _ rfl (hr.append (Reps.one h1))⟩
      · rw [if_neg c] at hf
        cases hf
def gPopAt (ds : List D) : D → M D := mMod fun es => match ds with
  | [.int i] => if i.natAbs < 2 ^ 63 then (match seqIndex? i es.length with
    | some k => (match es[k]? with
      | some d => some (d, es.eraseIdx k)
      | none => none)
    | none => none) else none
  | _ => none
theorem okm_popAt : OkM C rPopAt gPopAt := by
  intro W σ ρ H ro w d x ds xs Q hS hd hds q
  obtain ⟨a, vs, es, r, es', rfl, hv, hr, hf, k⟩ := mMod_ok hS hd q
  cases ds with
  | nil => cases hf
  | cons d' ds =>
    cases ds with
    | cons _ _ => cases d' <;> cases hf
    | nil =>
      cases d' with
      | int i =>
        obtain ⟨v, r', rfl, h1, h2⟩ := hds
        cases (show r' = [] from h2)
        cases (show v = .int i from h1)
        dsimp only at hf
        by_cases c : i.natAbs < 2 ^ 63
        · rw [if_pos c] at hf
          cases e1 : seqIndex? i es.length with
          | none =>
            rw [e1] at hf
            cases hf
          | some j =>
            rw [e1] at hf
            cases e2 : es[j]? with
            | none =>
              simp only [e2] at hf
              cases hf
            | some y =>
              simp only [e2] at hf
              cases hf
              obtain ⟨v, g1, g2⟩ := hr.get e2
              exact ⟨a, vs, i, j, v, rfl, rfl, hv, by omega, by omega, by rw [← hr.len]; exact e1, g1, k v _ g2 (hr.eraseIdx j)⟩
        · rw [if_neg c] at hf
          cases hf
      | _ => cases hf
theorem pf_append {fs : Env → M (List D)} {fo : EF} {apos : Pos} (ho : PE X o (tE (cfg X) W fo)) (ha : PA X (e :: es) (tA (cfg X) W fs)) (hbase : attributeBase o "append" X.env (eval o X.env) = eval o X.env := by rfl)
    (hfew : ((backTo pos (starEach (e :: es) X.env)).all (fun x => !x.1) && (backToKw pos (keywordEach [] X.env)).all (fun x => x.1.isSome)
      && decide ((e :: es).length + ([] : List Keyword).length + (if ([] : List Keyword).isEmpty then 0 else 1) < 30)) = true := by rfl)
    (hline : (apos.endLine == pos.line) = true := by rfl) (hs : starEach (e :: es) X.env = (false, eval e X.env) :: starEach es X.env := by rfl) (hplain : (backTo pos (starEach es X.env)).any (·.1) = false := by rfl) :
    PE X (.Call (.Attribute o "append" apos) (e :: es) [] pos) (tE (cfg X) W (cMl gAppend fo fs)) :=
  pe_imp (pe_bm PySem.F.plainAttrs_list PySem.F.slot_list_append PySem.F.type_list_append mt_append ho ha hbase hfew hline hs hplain) fun _ _ _ q => tE_ml okm_append q
theorem pf_popAt {fs : Env → M (List D)} {fo : EF} {apos : Pos} (ho : PE X o (tE (cfg X) W fo)) (ha : PA X (e :: es) (tA (cfg X) W fs)) (hbase : attributeBase o "pop" X.env (eval o X.env) = eval o X.env := by rfl)
    (hfew : ((backTo pos (starEach (e :: es) X.env)).all (fun x => !x.1) && (backToKw pos (keywordEach [] X.env)).all (fun x => x.1.isSome)
      && decide ((e :: es).length + ([] : List Keyword).length + (if ([] : List Keyword).isEmpty then 0 else 1) < 30)) = true := by rfl)
    (hline : (apos.endLine == pos.line) = true := by rfl) (hs : starEach (e :: es) X.env = (false, eval e X.env) :: starEach es X.env := by rfl) (hplain : (backTo pos (starEach es X.env)).any (·.1) = false := by rfl) :
    PE X (.Call (.Attribute o "pop" apos) (e :: es) [] pos) (tE (cfg X) W (cMl gPopAt fo fs)) :=
  pe_imp (pe_bm PySem.F.plainAttrs_list PySem.F.slot_list_pop PySem.F.type_list_pop mt_popAt ho ha hbase hfew hline hs hplain) fun _ _ _ q => tE_ml okm_popAt q

/-- x[i] = v -/
def gPut (v o i : D) : M D := match i with
  | .int k => mMod (fun es => match ixN es.length k with
    | some j => some (.non, es.set j v)
    | none => none) o
  | _ => M.no
def sPut (fo fi fv : EF) : SF := sLift fv fun v => sLift fo fun o => sLift fi fun i => sLift (fun _ => gPut v o i) fun _ env _ w => .go .nx env w
end
end Fx
namespace Fx
open PySem PySem.Spec L2

/-! ### what is walked: its items in a row -/
def Walks (C : Cfg) (ρ0 : Zn) (H0 : Hp) (ds : List D) (J : It) : Prop :=
  ∀ (i : Nat) (ρ : Zn) (H : Hp) (v : List D), ExtR ρ0 ρ H0 H → RepS C ρ H v →
    (∀ d, ds[i]? = some d → J.go i H ∧ ∀ x H', J.yld i H x H' → Ext ρ ρ H H' ∧ RepS C ρ H' v ∧ Rep C ρ H' d x) ∧ (ds[i]? = none → J.stop i H)
abbrev tI (C : Cfg) (W : WX) (f : Env → M (List D)) : TI := tR C (Walks C) W f
theorem pi_imp {X : Cx} {tg e : Expr} {t t' : TI} (h : PI X tg e t) (i : ∀ σ H R, t' σ H R → t σ H R) : PI X tg e t' := ⟨fun pins s σ H R I q => h.run pins s σ H R I (i σ H R q)⟩
theorem pi_or {X : Cx} {tg e : Expr} {t t' : TI} (h : PI X tg e t) (h' : PI X tg e t') : PI X tg e (fun σ H R => t σ H R ∨ t' σ H R) := ⟨fun pins s σ H R I q => q.elim (h.run pins s σ H R I) (h'.run pins s σ H R I)⟩

section
variable {X : Cx} {C : Cfg} {W : WX} {pos p : Pos} {a b c e tg : Expr} {es : List Expr} {fa f : EF} {fs : Env → M (List D)} {ρ : Zn} {H : Hp}
/-! ### targets -/
inductive Tg where
  | nm (i : Nat)
  | tp (is : List Nat)
  | np (is js : List Nat)
def Tg.slots : Tg → List Nat
  | .nm i => [i]
  | .tp is => is
  | .np is js => is ++ js
def setsE : Env → List Nat → List D → Env
  | env, i :: is, d :: ds => setsE (env.set i (some d)) is ds
  | env, _, _ => env
def setsS : L2.St → List Nat → List V → L2.St
  | σ, i :: is, v :: vs => setsS (σ.set i (some v)) is vs
  | σ, _, _ => σ
def Tg.put : Tg → D → Env → Option Env
  | .nm i, d, env => some (env.set i (some d))
  | .tp is, .tup ds, env => if ds.length = is.length then some (setsE env is ds) else none
  | .tp _, _, _ => none
  | .np is js, .tup (.tup ds :: es), env => if ds.length = is.length ∧ es.length = js.length then some (setsE (setsE env is ds) js es) else none
  | .np _ _, _, _ => none
def gNs : List Nat → TGs
  | [] => gNil
  | i :: is => gCons (gName i) (gNs is)
def Tg.g (K : PySem.W.Frag) : Tg → TG
  | .nm i => gName i
  | .tp is => gTup K is.length (gNs is)
  | .np is js => gTup K (js.length + 1) (gCons (gTup K is.length (gNs is)) (gNs js))
theorem gNs_ok : ∀ {is : List Nat} {vs : List V} {σ : L2.St} {Q : L2.St → Hp → Prop}, vs.length = is.length → Q (setsS σ is vs) H → gNs is vs σ H Q
  | [], vs, σ, Q, hl, q => by
    cases vs with
    | nil => exact ⟨rfl, q⟩
    | cons _ _ => simp at hl
  | i :: is, vs, σ, Q, hl, q => by
    cases vs with
    | nil => simp at hl
    | cons v vs => exact ⟨v, vs, rfl, gNs_ok (by simpa using hl) q⟩
theorem sets_ok : ∀ {is : List Nat} {ds : List D} {vs : List V} {env : Env} {σ : L2.St}, RepE C ρ H env σ → Reps C ρ H ds vs → RepE C ρ H (setsE env is ds) (setsS σ is vs)
  | [], ds, vs, env, σ, h, r => by
    cases ds with
    | nil =>
      cases (show vs = [] from r)
      exact h
    | cons d ds =>
      obtain ⟨v, r', rfl, _, _⟩ := r
      exact h
  | i :: is, ds, vs, env, σ, h, r => by
    cases ds with
    | nil =>
      cases (show vs = [] from r)
      exact h
    | cons d ds =>
      obtain ⟨v, r', rfl, h1, h2⟩ := r
      exact sets_ok (is := is) (h.set h1) h2
def Tg.set : Tg → List V → V → L2.St → L2.St
  | .nm i, _, v, σ => σ.set i (some v)
  | .tp is, vs, _, σ => setsS σ is vs
  | .np is js, vs, _, σ => setsS (setsS σ is (vs.take is.length)) js (vs.drop is.length)
theorem Tg.ok {t : Tg} {d : D} {v : V} {env env' : Env} {σ : L2.St} {Q : L2.St → Hp → Prop} (hE : RepE C ρ H env σ) (hd : Rep C ρ H d v) (e : t.put d env = some env')
    (q : ∀ vs, RepE C ρ H env' (t.set vs v σ) → Q (t.set vs v σ) H) : t.g C.K v σ H Q := by
  cases t with
  | nm i =>
    cases (show some (env.set i (some d)) = some env' from e)
    exact q [] (hE.set hd)
  | tp is =>
    cases d with
    | tup ds =>
      replace e : (if ds.length = is.length then some (setsE env is ds) else none) = some env' := e
      by_cases c : ds.length = is.length
      · rw [if_pos c] at e
        cases e
        obtain ⟨a, vs, rfl, h, r⟩ := hd
        exact ⟨a, vs, rfl, Still.sqT h, by rw [← r.len, c], gNs_ok (by rw [← r.len, c]) (q vs (sets_ok hE r))⟩
      · rw [if_neg c] at e
        cases e
    | _ => cases e
  | np is js =>
    cases d with
    | tup ds =>
      cases ds with
      | nil => cases e
      | cons d1 es =>
        cases d1 with
        | tup ds =>
          replace e : (if ds.length = is.length ∧ es.length = js.length then some (setsE (setsE env is ds) js es) else none) = some env' := e
          by_cases c : ds.length = is.length ∧ es.length = js.length
          · rw [if_pos c] at e
            cases e
            obtain ⟨a, vs, rfl, h, v1, us, ev, ⟨b, ws, ew, h', r1⟩, r2⟩ := hd
            subst ev ew
            have l1 : ws.length = is.length := by rw [← r1.len, c.1]
            have l2 : us.length = js.length := by rw [← r2.len, c.2]
            have q' := q (ws ++ us)
            have es' : Tg.set (.np is js) (ws ++ us) (.ref a) σ = setsS (setsS σ is ws) js us := by
              show setsS (setsS σ is ((ws ++ us).take is.length)) js ((ws ++ us).drop is.length) = _
              rw [List.take_left' l1, List.drop_left' l1]
            rw [es'] at q'
            exact ⟨a, _, rfl, Still.sqT h, by rw [List.length_cons, l2], .ref b, us, rfl, ⟨b, ws, rfl, Still.sqT h', l1, gNs_ok l1 (gNs_ok l2 (q' (sets_ok (sets_ok hE r1) r2)))⟩⟩
          · rw [if_neg c] at e
            cases e
        | _ => cases e
    | _ => cases e
theorem pg_n (i : Nat) {x : Str} (hN : X.N.Nodup) (hi : X.N[i]? = some x := by rfl) (hx : Loc X.env.scope x := by first | exact Or.inl rfl | exact Or.inr rfl) (hf : X.fn x = true ∨ X.env.scope.names.lookup x = some .local := by first | exact .inl rfl | exact .inr rfl) :
    PG X (.Name x pos) ((Tg.nm i).g X.K) := pg_name hN hi hx hf
theorem pgn_nil : PGs X [] (gNs []) := pgs_nil
theorem pgn_cons {i : Nat} {is : List Nat} (h1 : PG X e ((Tg.nm i).g X.K)) (h2 : PGs X es (gNs is)) (hs : (assignEach (e :: es) X.env).map (·.2) = assign e X.env :: (assignEach es X.env).map (·.2) := by rfl) : PGs X (e :: es) (gNs (i :: is)) := pgs_cons h1 h2 hs
theorem pg_t {k : Nat} {is : List Nat} (hc : X.calm = true) (h : PGs X es (gNs is)) (hn : (assignEach es X.env).length = is.length := by rfl) (hst : (assignEach es X.env).findIdx? (·.1) = none := by rfl) : PG X (.Tuple es k pos) ((Tg.tp is).g X.K) := pg_tup hc h hn hst

/-! ### sources -/
/-- a list, a tuple that stands still -/
def cSeq (f : EF) : Env → M (List D) := fun env => M.bind (f env) fun d => match d with
  | .lst ds => M.pure ds
  | .tup ds => M.pure ds
  | _ => M.no
theorem walks_list {K : PySem.W.Frag} {mg : Str → Option Value} {ds : List D} {v : V} {a : Addr} {vs : List V} (h : Still ρ H a (.lst vs) ∨ KL K a vs) (r : Reps ⟨K, mg, w⟩ ρ H ds vs) : Walks ⟨K, mg, w⟩ ρ H ds (Itl K a) := by
  intro i ρ' H' u x s
  have h' : SqL K H' a vs := h.elim (fun h => .inl (Still.extR x h).2) .inr
  have r' := Reps.extR x ds r
  refine ⟨fun d e => ?_, fun e => ⟨vs, h', ?_⟩⟩
  · obtain ⟨y, h1, h2⟩ := r'.get e
    refine ⟨⟨vs, y, h', h1⟩, fun z H2 ⟨e2, g⟩ => ?_⟩
    subst e2
    have := g vs h'
    rw [h1] at this
    cases this
    exact ⟨.refl, s, h2⟩
  · exact List.getElem?_eq_none_iff.mp (r'.none e)
theorem walks_tup {K : PySem.W.Frag} {mg : Str → Option Value} {ds : List D} {v : V} {a : Addr} {vs : List V} (h : Still ρ H a (.tup vs) ∨ KT K a vs) (r : Reps ⟨K, mg, w⟩ ρ H ds vs) : Walks ⟨K, mg, w⟩ ρ H ds (Itt K a) := by
  intro i ρ' H' u x s
  have h' : SqT K H' a vs := h.elim (fun h => .inl (Still.extR x h).2) .inr
  have r' := Reps.extR x ds r
  refine ⟨fun d e => ?_, fun e => ⟨vs, h', ?_⟩⟩
  · obtain ⟨y, h1, h2⟩ := r'.get e
    refine ⟨⟨vs, y, h', h1⟩, fun z H2 ⟨e2, g⟩ => ?_⟩
    subst e2
    have := g vs h'
    rw [h1] at this
    cases this
    exact ⟨.refl, s, h2⟩
  · exact List.getElem?_eq_none_iff.mp (r'.none e)
theorem pfi_seq (h : PE X e (tE (cfg X) W f)) : PI X tg e (tI (cfg X) W (cSeq f)) := pi_imp (pi_or (pi_list h) (pi_tup h)) fun σ H R ⟨ρ, env, ro, w, hS, hE, q⟩ => by
  unfold cSeq M.bind at q
  cases ef : f env ro w with
  | no =>
    rw [ef] at q
    exact (show False from q).elim
  | exn c ns xs w1 =>
    rw [ef] at q
    exact .inl ⟨ρ, env, ro, w, hS, hE, by rw [ef]; exact q⟩
  | ok d w1 =>
    rw [ef] at q
    cases d with
    | lst ds =>
      refine .inl ⟨ρ, env, ro, w, hS, hE, ?_⟩
      rw [ef]
      intro v ρ1 H1 x1 s1 ⟨a, vs, ev, hv, r⟩
      subst ev
      exact ⟨a, rfl, ⟨vs, Still.sqL hv⟩, q _ ρ1 H1 x1 s1 (walks_list (v := .ref a) hv r)⟩
    | tup ds =>
      refine .inr ⟨ρ, env, ro, w, hS, hE, ?_⟩
      rw [ef]
      intro v ρ1 H1 x1 s1 ⟨a, vs, ev, hv, r⟩
      subst ev
      exact ⟨a, rfl, ⟨vs, Still.sqT hv⟩, q _ ρ1 H1 x1 s1 (walks_tup (v := .ref a) hv r)⟩
    | _ => exact (show False from q).elim
/-- range -/
def rngD (lo : Int) (n : Nat) : List D := (List.range n).map fun (i : Nat) => .int (lo + i)
def gRng1 : List D → M (List D)
  | [.int j] => fun _ w => if j.natAbs < 2 ^ 62 then .ok (rngD 0 j.toNat) w else .no
  | _ => M.no
def gRng2 : List D → M (List D)
  | [.int i, .int j] => fun _ w => if i.natAbs < 2 ^ 62 ∧ j.natAbs < 2 ^ 62 then .ok (rngD i (j - i).toNat) w else .no
  | _ => M.no
def cRng1 (fs : Env → M (List D)) : Env → M (List D) := fun env => M.bind (fs env) gRng1
def cRng2 (fs : Env → M (List D)) : Env → M (List D) := fun env => M.bind (fs env) gRng2
theorem walks_rng {lo : Int} {n : Nat} : Walks C ρ H (rngD lo n) (Itr lo n) := by
  intro i ρ' H' u y s
  unfold rngD
  refine ⟨fun d e => ?_, fun e => ?_⟩
  · rw [List.getElem?_map] at e
    by_cases hi : i < n
    · rw [List.getElem?_range hi] at e
      cases e
      refine ⟨hi, fun z H2 ⟨e2, g⟩ => ?_⟩
      subst e2
      exact ⟨.refl, s, g⟩
    · rw [List.getElem?_eq_none (by simpa using hi)] at e
      cases e
  · rw [List.getElem?_eq_none_iff] at e
    exact (by simpa using e : n ≤ i)
theorem int_of {ds : List D} {vs : List V} {i : Int} (r : Reps C ρ H (.int i :: ds) vs) : ∃ vr, vs = .int i :: vr ∧ Reps C ρ H ds vr := by
  obtain ⟨v, r', e1, e2, e3⟩ := r
  cases (show v = .int i from e2)
  exact ⟨r', e1, e3⟩
theorem pfi_rng1 (hg : Gl X "range") (hm : X.mg "range" = none) (ha : PA X [a] (tA C W fs)) (hs : starEach [a] X.env = [(false, eval a X.env)] := by rfl) : PI X tg (.Call (.Name "range" p) [a] [] pos) (tI C W (cRng1 fs)) :=
  pi_imp (pi_range1 hg hm ha hs) fun σ H R ⟨ρ, env, ro, w, hS, hE, q⟩ => by
    refine tR_seq hS hE q fun ds w1 vs ρ1 H1 x1 s1 r1 q1 => ?_
    unfold gRng1 at q1
    split at q1
    · rename_i j
      obtain ⟨vr, rfl, e3⟩ := int_of r1
      cases (show vr = [] from e3)
      by_cases c : j.natAbs < 2 ^ 62
      · simp only [if_pos c] at q1
        exact ⟨j, rfl, by omega, by omega, q1 _ ρ1 H1 .refl s1 walks_rng⟩
      · simp only [if_neg c] at q1
        exact (show False from q1).elim
    · exact (show False from q1).elim
theorem pfi_rng2 (hg : Gl X "range") (hm : X.mg "range" = none) (ha : PA X [a, b] (tA C W fs)) (hs : starEach [a, b] X.env = [(false, eval a X.env), (false, eval b X.env)] := by rfl) (hs2 : starEach [b] X.env = [(false, eval b X.env)] := by rfl) : PI X tg (.Call (.Name "range" p) [a, b] [] pos) (tI C W (cRng2 fs)) :=
  pi_imp (pi_range2 hg hm ha hs hs2) fun σ H R ⟨ρ, env, ro, w, hS, hE, q⟩ => by
    refine tR_seq hS hE q fun ds w1 vs ρ1 H1 x1 s1 r1 q1 => ?_
    unfold gRng2 at q1
    split at q1
    · rename_i i j
      obtain ⟨vr, rfl, e3⟩ := int_of r1
      obtain ⟨vr', rfl, e4⟩ := int_of e3
      cases (show vr' = [] from e4)
      by_cases c : i.natAbs < 2 ^ 62 ∧ j.natAbs < 2 ^ 62
      · simp only [if_pos c] at q1
        exact ⟨i, j, rfl, by omega, q1 _ ρ1 H1 .refl s1 walks_rng⟩
      · simp only [if_neg c] at q1
        exact (show False from q1).elim
    · exact (show False from q1).elim

/-! ### for -/
def forL (t : Tg) (body : SF) : List D → SF
  | [] => sNil
  | d :: ds => fun env ro w => match t.put d env with
    | none => .no
    | some env1 => match body env1 ro w with
      | .go .nx env2 w2 => forL t body ds env2 ro w2
      | .go .ct env2 w2 => forL t body ds env2 ro w2
      | .go .bk env2 w2 => .go .nx env2 w2
      | .go (.rt d) env2 w2 => .go (.rt d) env2 w2
      | .exn c ns xs env2 w2 => .exn c ns xs env2 w2
      | .no => .no
def sFor (t : Tg) (it : Env → M (List D)) (body : SF) : SF := sLift it fun ds => forL t body ds
theorem tS_for {t : Tg} {it : Env → M (List D)} {body : SF} {D : Ends} {σ : L2.St} {H : Hp} (q : tS (cfg X) W (sFor t it body) D σ H) : tFor (tI (cfg X) W it) (t.g X.K) (tS (cfg X) W body) D σ H := by
  obtain ⟨ρ, env, ro, w, hS, hE, q⟩ := q
  refine tS_seq hS hE q fun ds w1 J ρ1 H1 x1 s1 e1 walk q1 => ?_
  refine ⟨fun i m σ H => i + m = ds.length ∧ ∃ ρ2 env2 w2, Ext ρ1 ρ2 H1 H ∧ RepS (cfg X) ρ2 H (ro ++ w2) ∧ RepE (cfg X) ρ2 H env2 σ ∧ AfterS (cfg X) W ρ2 H ro (forL t body (ds.drop i) env2 ro w2) D,
    ⟨ds.length, by omega, ρ1, env, w1, .refl, s1, e1, q1⟩, fun i m σ H ⟨hm, ρ2, env2, w2, x2, s2, e2, q2⟩ => ?_⟩
  have wk := walk i ρ2 H _ x2.r s2
  cases hd : ds[i]? with
  | none =>
    have hl := List.getElem?_eq_none_iff.mp hd
    rw [List.drop_eq_nil_of_le hl] at q2
    exact .inl ⟨wk.2 hd, q2 σ ρ2 H .refl s2 e2⟩
  | some d =>
    have hl := (List.getElem?_eq_some_iff.mp hd).1
    have hdrop : ds.drop i = d :: ds.drop (i + 1) := by
      rw [List.drop_eq_getElem_cons hl, (List.getElem?_eq_some_iff.mp hd).2]
    rw [hdrop] at q2
    obtain ⟨go, yl⟩ := wk.1 d hd
    refine .inr ⟨go, fun σ' H' => ∃ ρ3 env3 w3, Ext ρ1 ρ3 H1 H' ∧ RepS (cfg X) ρ3 H' (ro ++ w3) ∧ RepE (cfg X) ρ3 H' env3 σ' ∧ AfterS (cfg X) W ρ3 H' ro (forL t body (ds.drop (i + 1)) env3 ro w3) D,
      fun σ' H' h => ⟨m - 1, by omega, by omega, h⟩, fun y H' hy => ?_⟩
    obtain ⟨x3, s3, r3⟩ := yl y H' hy
    unfold forL at q2
    cases hput : t.put d env2 with
    | none =>
      simp only [hput] at q2
      exact (show False from q2).elim
    | some env3 =>
      simp only [hput] at q2
      refine Tg.ok (C := cfg X) (e2.ext x3) r3 hput fun vs e3 => ⟨ρ2, env3, ro, w2, s3, e3, ?_⟩
      cases hbd : body env3 ro w2 with
      | no =>
        simp only [hbd] at q2
        exact q2
      | exn c ns xs env4 w4 =>
        simp only [hbd] at q2
        exact AfterS.ext x3 q2
      | go fl env4 w4 =>
        simp only [hbd] at q2
        cases fl with
        | nx => exact fun σ5 ρ5 H5 x5 s5 e5 => ⟨ρ5, env4, w4, x2.trans (x3.trans x5), s5, e5, AfterS.ext (x3.trans x5) q2⟩
        | ct => exact fun σ5 ρ5 H5 x5 s5 e5 => ⟨ρ5, env4, w4, x2.trans (x3.trans x5), s5, e5, AfterS.ext (x3.trans x5) q2⟩
        | bk => exact fun σ5 ρ5 H5 x5 s5 e5 => q2 σ5 ρ5 H5 (x3.trans x5) s5 e5
        | rt d' => exact fun v5 ρ5 H5 x5 s5 r5 => q2 v5 ρ5 H5 (x3.trans x5) s5 r5

theorem f_for {t : Tg} {it : Env → M (List D)} {body : SF} {sts : List Stmt} (hp : PassesOwn (model X.prog X.w) X.A X.env X.xe) (hc : X.calm = true) (hi : PI X tg e (tI (cfg X) W it)) (hg : PG X tg (t.g X.K)) (hb : PSs X sts (tS (cfg X) W body)) (hs : ∀ x, foldedSetIterable e X.env x = pure x := by intro _; rfl) :
    PS X (.For tg e sts [] pos) (tS (cfg X) W (sFor t it body)) := ps_imp (ps_for hp hc hi hg hb (hs := hs)) fun D σ H q => tS_for q

/-! ### while: at most `n` turns -/
end
end Fx
namespace Fx
open PySem PySem.Spec L2

/-! ### the slots of a block wiped -/
theorem wipe_get (σ : L2.St) : ∀ (vs : List Nat) (j : Nat), (wipe σ vs)[j]? = if j ∈ vs then (if j < σ.length then some none else none) else σ[j]?
  | [], j => by simp [wipe]
  | v :: vs, j => by
    unfold wipe
    by_cases e : v = j
    · subst e
      simp only [List.mem_cons, true_or, if_true]
      by_cases hl : v < σ.length
      · rw [List.getElem?_set_self (by rw [wipe_length]; exact hl), if_pos hl]
      · rw [if_neg hl, List.getElem?_eq_none (by rw [List.length_set, wipe_length]; omega)]
    · rw [List.getElem?_set_ne e, wipe_get σ vs j]
      have : (j ∈ v :: vs) = (j ∈ vs) := by simp [Ne.symm e]
      simp only [this]
theorem wipe_eq {σ σ' : L2.St} {vs : List Nat} (hl : σ'.length = σ.length) (h : ∀ j, j ∉ vs → σ'[j]? = σ[j]?) : wipe σ' vs = wipe σ vs := by
  apply List.ext_getElem?
  intro j
  rw [wipe_get, wipe_get, hl]
  by_cases hj : j ∈ vs
  · simp only [if_pos hj]
  · simp only [if_neg hj]
    exact h j hj
theorem setsS_len : ∀ (is : List Nat) (vs : List V) (σ : L2.St), (setsS σ is vs).length = σ.length
  | [], vs, σ => by cases vs <;> rfl
  | i :: is, [], σ => rfl
  | i :: is, v :: vs, σ => by
    show (setsS (σ.set i (some v)) is vs).length = _
    rw [setsS_len is vs, List.length_set]
theorem setsS_get : ∀ (is : List Nat) (vs : List V) (σ : L2.St) (j : Nat), j ∉ is → (setsS σ is vs)[j]? = σ[j]?
  | [], vs, σ, j, _ => by cases vs <;> rfl
  | i :: is, [], σ, j, _ => rfl
  | i :: is, v :: vs, σ, j, h => by
    show (setsS (σ.set i (some v)) is vs)[j]? = _
    have h' : j ≠ i ∧ j ∉ is := by simpa using h
    rw [setsS_get is vs _ j h'.2, List.getElem?_set_ne (Ne.symm h'.1)]
theorem wipe_set {t : Tg} {own : List Nat} {vs : List V} {v : V} {σ : L2.St} (h : ∀ i ∈ t.slots, i ∈ own) : wipe (t.set vs v (wipe σ own)) own = wipe σ own := by
  have e1 : wipe (t.set vs v (wipe σ own)) own = wipe (wipe σ own) own := by
    cases t with
    | nm i =>
      refine wipe_eq (by simp [Tg.set]) fun j hj => ?_
      show ((wipe σ own).set i (some v))[j]? = _
      exact List.getElem?_set_ne fun e => hj (by rw [← e]; exact h i (by simp [Tg.slots]))
    | tp is =>
      refine wipe_eq (setsS_len _ _ _) fun j hj => ?_
      exact setsS_get is vs _ j fun hm => hj (h j hm)
    | np is js =>
      refine wipe_eq ((setsS_len _ _ _).trans (setsS_len _ _ _)) fun j hj => ?_
      exact (setsS_get js _ _ j fun hm => hj (h j (List.mem_append_right _ hm))).trans (setsS_get is _ _ j fun hm => hj (h j (List.mem_append_left _ hm)))
  rw [e1]
  refine wipe_eq (wipe_length _ _) fun j hj => ?_
  rw [wipe_get, if_neg hj]
def wipeE (env : Env) : List Nat → Env
  | [] => env
  | v :: vs => (wipeE env vs).set v none
theorem wipeE_ok {C : Cfg} {ρ : Zn} {H : Hp} {env : Env} {σ : L2.St} (h : RepE C ρ H env σ) : ∀ vs : List Nat, RepE C ρ H (wipeE env vs) (wipe σ vs)
  | [] => h
  | v :: vs => by
    have ih := wipeE_ok h vs
    refine ⟨by simp [wipeE, wipe, ih.len], fun j d e => ?_⟩
    unfold wipeE at e
    unfold wipe
    by_cases hj : v = j
    · subst hj
      by_cases hl : v < (wipeE env vs).length
      · rw [List.getElem?_set_self hl] at e
        cases e
      · rw [List.getElem?_eq_none (by simpa using hl)] at e
        cases e
    · rw [List.getElem?_set_ne hj] at e
      obtain ⟨u, h1, h2⟩ := ih.at' j d e
      exact ⟨u, by rw [List.getElem?_set_ne hj]; exact h1, h2⟩

/-! ### one object hidden -/
abbrev Zn.hide (ρ : Zn) (a : Addr) : Zn := ⟨ρ.r, a :: ρ.h⟩
section
variable {C : Cfg} {ρ ρ' : Zn} {H H' : Hp} {w : List D} {a : Addr} {o : HO}
theorem hide_new (hS : RepS C ρ H w) (ha : H a = none) : ExtR ρ (ρ.hide a) H (upd H a o) ∧ RepS C (ρ.hide a) (upd H a o) w := by
  have x : ExtR ρ (ρ.hide a) H (upd H a o) := ⟨⟨[], by simp⟩, fun b u e n => ⟨by rw [upd_ne (ne_of_none e ha)]; exact e, n.1, fun z => by
    rcases List.mem_cons.mp z with z | z
    · exact ne_of_none e ha z
    · exact n.2 z⟩⟩
  refine ⟨x, hS.len, hS.nd, fun i b d h1 h2 => ?_, fun b hb => ?_⟩
  · have hb : b ≠ a := fun e => (hS.fresh ha).1 (e ▸ List.mem_of_getElem? h1)
    have q := hS.obj i b d h1 h2
    cases d with
    | lst ds => obtain ⟨vs, e, r⟩ := q; exact ⟨vs, (upd_ne hb).trans e, Reps.extR x ds r⟩
    | dic ks ds => obtain ⟨vs, e, k, r⟩ := q; exact ⟨vs, (upd_ne hb).trans e, k, Reps.extR x ds r⟩
    | dct ks ds => obtain ⟨es, ep, as, vs, e, en, nd, rk, r⟩ := q; exact ⟨es, ep, as, vs, (upd_ne hb).trans e, en, nd, Reps.extR x ks rk, Reps.extR x ds r⟩
    | ins c ns ds => obtain ⟨A, dx, fs, m, e, k, r⟩ := q; exact ⟨A, dx, fs, m, (upd_ne hb).trans e, k, Reps.extR x ds r⟩
    | _ => exact (show False from q).elim
  · rcases List.mem_cons.mp hb with e | hb
    · subst e
      exact ⟨(hS.fresh ha).1, o, upd_same⟩
    · refine ⟨(hS.hid b hb).1, ?_⟩
      obtain ⟨u, e⟩ := (hS.hid b hb).2
      exact ⟨u, by rw [upd_ne (ne_of_none e ha)]; exact e⟩
/-- the hidden object is written -/
theorem hide_put (hS : RepS C ρ H w) (ha : a ∈ ρ.h) : ExtR ρ ρ H (upd H a o) ∧ RepS C ρ (upd H a o) w := by
  have x : ExtR ρ ρ H (upd H a o) := ⟨⟨[], by simp⟩, fun b u e n => ⟨by rw [upd_ne fun z => n.2 (by rw [z]; exact ha)]; exact e, n⟩⟩
  refine ⟨x, hS.len, hS.nd, fun i b d h1 h2 => ?_, fun b hb => ?_⟩
  · have hb : b ≠ a := fun e => (hS.hid a ha).1 (e ▸ List.mem_of_getElem? h1)
    have q := hS.obj i b d h1 h2
    cases d with
    | lst ds => obtain ⟨vs, e, r⟩ := q; exact ⟨vs, (upd_ne hb).trans e, Reps.extR x ds r⟩
    | dic ks ds => obtain ⟨vs, e, k, r⟩ := q; exact ⟨vs, (upd_ne hb).trans e, k, Reps.extR x ds r⟩
    | dct ks ds => obtain ⟨es, ep, as, vs, e, en, nd, rk, r⟩ := q; exact ⟨es, ep, as, vs, (upd_ne hb).trans e, en, nd, Reps.extR x ks rk, Reps.extR x ds r⟩
    | ins c ns ds => obtain ⟨A, dx, fs, m, e, k, r⟩ := q; exact ⟨A, dx, fs, m, (upd_ne hb).trans e, k, Reps.extR x ds r⟩
    | _ => exact (show False from q).elim
  · refine ⟨(hS.hid b hb).1, ?_⟩
    by_cases e : b = a
    · subst e
      exact ⟨o, upd_same⟩
    · obtain ⟨u, e2⟩ := (hS.hid b hb).2
      exact ⟨u, by rw [upd_ne e]; exact e2⟩
/-- .. and comes forth -/
theorem hide_end {h : List Addr} (hS : RepS C ρ H w) (hh : ρ.h = a :: h) : ExtR ρ ⟨ρ.r, h⟩ H H ∧ RepS C ⟨ρ.r, h⟩ H w := by
  have x : ExtR ρ ⟨ρ.r, h⟩ H H := ⟨⟨[], by simp⟩, fun b u e n => ⟨e, n.1, fun z => n.2 (by rw [hh]; exact List.mem_cons_of_mem _ z)⟩⟩
  refine ⟨x, hS.len, hS.nd, fun i b d h1 h2 => ?_, fun b hb => hS.hid b (by rw [hh]; exact List.mem_cons_of_mem _ hb)⟩
  have q := hS.obj i b d h1 h2
  cases d with
  | lst ds => obtain ⟨vs, e, r⟩ := q; exact ⟨vs, e, Reps.extR x ds r⟩
  | dic ks ds => obtain ⟨vs, e, k, r⟩ := q; exact ⟨vs, e, k, Reps.extR x ds r⟩
  | dct ks ds => obtain ⟨es, ep, as, vs, e, en, nd, rk, r⟩ := q; exact ⟨es, ep, as, vs, e, en, nd, Reps.extR x ks rk, Reps.extR x ds r⟩
  | ins c ns ds => obtain ⟨A, dx, fs, m, e, k, r⟩ := q; exact ⟨A, dx, fs, m, e, k, Reps.extR x ds r⟩
  | _ => exact (show False from q).elim
end

/-! ### a list comprehension -/
def M.calm {α : Type} (m : M α) : M α := fun ro w => match m ro w with
  | .ok a w' => .ok a w'
  | _ => .no
def W0 : WX := fun _ _ _ _ => False
def cYes : Env → M Bool := fun _ => M.pure true
def compR (t : Tg) (tt : Env → M Bool) (f : EF) (env : Env) : List D → M (List D)
  | [] => M.pure []
  | d :: ds => match t.put d env with
    | none => M.no
    | some env1 => M.bind (M.calm (tt env1)) fun b => if b = true then M.bind (M.calm (f env1)) fun x => M.bind (compR t tt f env ds) fun r => M.pure (x :: r) else compR t tt f env ds
/-- the items, at most as many as a list may have -/
def few (it : Env → M (List D)) : Env → M (List D) := fun env => M.bind (it env) fun ds => fun _ w => if ds.length ≤ sizeLine then .ok ds w else .no
def cComp (t : Tg) (own : List Nat) (it : Env → M (List D)) (tt : Env → M Bool) (f : EF) (k : List D → M D) : EF := fun env => M.bind (few it env) fun ds => M.bind (compR t tt f (wipeE env own) ds) k
/-- what becomes of the list: it stands still, or it may change -/
def kStill (ds : List D) : M D := M.pure (.lst ds)
def kMut (ds : List D) : M D := mNew (.lst ds)

section
variable {X : Cx} {C : Cfg} {W : WX} {σ : L2.St} {ρ : Zn} {H : Hp} {ro w : List D}
theorem calm_ok {α : Type} {m : M α} {a : α} {w' : List D} (h : M.calm m ro w = .ok a w') : m ro w = .ok a w' := by
  unfold M.calm at h
  split at h
  · rename_i e
    cases h
    exact e
  · cases h
theorem bind_ok {α β : Type} {m : M α} {f : α → M β} {b : β} {w' : List D} (h : M.bind m f ro w = .ok b w') : ∃ a w1, m ro w = .ok a w1 ∧ f a ro w1 = .ok b w' := by
  unfold M.bind at h
  split at h
  · exact ⟨_, _, by assumption, h⟩
  · cases h
  · cases h
theorem calm_never {α : Type} {m : M α} {o : Out α} (h : M.calm m ro w = o) : (∃ a w', o = .ok a w') ∨ o = .no := by
  subst h
  unfold M.calm
  split
  · exact .inl ⟨_, _, rfl⟩
  · exact .inr rfl
theorem compR_never {t : Tg} {tt : Env → M Bool} {f : EF} {env : Env} : ∀ (ds : List D) {w : List D}, (∃ r w', compR t tt f env ds ro w = .ok r w') ∨ compR t tt f env ds ro w = .no
  | [], w => .inl ⟨[], w, rfl⟩
  | d :: ds, w => by
    unfold compR
    cases t.put d env with
    | none => exact .inr rfl
    | some env1 =>
      dsimp only
      unfold M.bind
      rcases calm_never (m := tt env1) (ro := ro) (w := w) rfl with ⟨b, w1, e⟩ | e
      · rw [e]
        dsimp only
        cases b with
        | false =>
          rw [if_neg Bool.false_ne_true]
          exact compR_never ds
        | true =>
          rw [if_pos rfl]
          rcases calm_never (m := f env1) (ro := ro) (w := w1) rfl with ⟨x, w2, e2⟩ | e2
          · rw [e2]
            dsimp only
            rcases compR_never (t := t) (tt := tt) (f := f) (env := env) ds (w := w2) with ⟨r, w3, e3⟩ | e3
            · rw [e3]
              exact .inl ⟨_, _, rfl⟩
            · rw [e3]
              exact .inr rfl
          · rw [e2]
            exact .inr rfl
      · rw [e]
        exact .inr rfl
theorem ext_out {ρ1 ρ ρ4 : Zn} {H1 H H4 : Hp} {D0 : Addr} (xo : Ext ρ1 ⟨ρ.r, ρ1.h⟩ H1 H) (hh : ρ.h = D0 :: ρ1.h) (hD : H1 D0 = none) (y : Ext ρ ρ4 H H4) : Ext ρ1 ⟨ρ4.r, ρ1.h⟩ H1 H4 := by
  obtain ⟨⟨ν, p1⟩, h1, k1, m1⟩ := xo
  obtain ⟨⟨μ, p2⟩, h2, k2, m2⟩ := y
  refine ⟨⟨ν ++ μ, by rw [p2, show ρ.r = ρ1.r ++ ν from p1, List.append_assoc]⟩, rfl, fun a o e n => ?_, fun a ha => (m2 a (by rw [hh]; exact List.mem_cons_of_mem _ ha)).trans (m1 a ha)⟩
  obtain ⟨e1, n1⟩ := k1 a o e n
  obtain ⟨e2, n2⟩ := k2 a o e1 ⟨n1.1, fun z => by
    rw [hh] at z
    rcases List.mem_cons.mp z with z | z
    · exact ne_of_none e hD z
    · exact n.2 z⟩
  exact ⟨e2, n2.1, n.2⟩
theorem ext_outR {ρ1 ρ : Zn} {H1 H : Hp} {D0 : Addr} (xo : Ext ρ1 ⟨ρ.r, ρ1.h⟩ H1 H) (hh : ρ.h = D0 :: ρ1.h) (hD : H1 D0 = none) : ExtR ρ1 ρ H1 H := ⟨xo.pre, fun a o e n => by
  obtain ⟨e1, n1⟩ := xo.keep a o e n
  exact ⟨e1, n1.1, fun z => by
    rw [hh] at z
    rcases List.mem_cons.mp z with z | z
    · exact ne_of_none e hD z
    · exact n.2 z⟩⟩
theorem ext_upd {ρ1 ρ2 : Zn} {H1 H : Hp} {D0 : Addr} {o : HO} (xo : Ext ρ1 ρ2 H1 H) (hD : H1 D0 = none) (hh : D0 ∉ ρ1.h) : Ext ρ1 ρ2 H1 (upd H D0 o) :=
  ⟨xo.pre, xo.hid, fun a u e n => ⟨by rw [upd_ne (ne_of_none e hD)]; exact (xo.keep a u e n).1, (xo.keep a u e n).2⟩, fun a ha => by rw [upd_ne fun e => hh (by rw [← e]; exact ha)]; exact xo.same a ha⟩
/-- the turns: from `acc` at D on -/
theorem lc_ok {t : Tg} {own : List Nat} {tt : Env → M Bool} {f : EF} {env : Env} {ds : List D} {J : It} {Qd : Hp → Prop} {w1 : List D} {r : List D} {wf : List D} {ρ1 : Zn} {H1 : Hp} {D0 : Addr}
    (ht : ∀ i ∈ t.slots, i ∈ own) (hn : ds.length ≤ sizeLine) (walk : Walks C ρ1 H1 ds J) (s1 : RepS C ρ1 H1 (ro ++ w1)) (e1 : RepE C ρ1 H1 env σ) (hD : H1 D0 = none)
    (hr : compR t tt f (wipeE env own) ds ro w1 = .ok r wf)
    (k : ∀ (ρ2 : Zn) H2 vs, Ext ρ1 ⟨ρ2.r, ρ1.h⟩ H1 H2 → ρ2.h = D0 :: ρ1.h → RepS C ρ2 H2 (ro ++ wf) → H2 D0 = some (.lst vs) → Reps C ρ2 H2 r vs → Qd H2) :
    ∃ W : Nat → Nat → Hp → Prop, (∃ m, W 0 m (upd H1 D0 (.lst []))) ∧ ∀ i m H, W i m H →
      (J.stop i H ∧ Qd H) ∨ (J.go i H ∧ ∃ Nx : Hp → Prop, (∀ H', Nx H' → ∃ m', m' < m ∧ W (i + 1) m' H') ∧ ∀ x H', J.yld i H x H' → t.g C.K x (wipe σ own) H' fun σ2 H2 => wipe σ2 own = wipe σ own ∧ tT C W0 tt σ2 H2 fun b H3 =>
        if b = true then tE C W0 f σ2 H3 fun y H4 => ∃ acc, H4 D0 = some (.lst acc) ∧ acc.length < sizeLine ∧ Nx (upd H4 D0 (.lst (acc ++ [y]))) else Nx H3) := by
  -- what holds at turn i
  let I : Nat → Hp → Prop := fun i H => ∃ ρ w acc vs r2, Ext ρ1 ⟨ρ.r, ρ1.h⟩ H1 H ∧ ρ.h = D0 :: ρ1.h ∧ RepS C ρ H (ro ++ w) ∧ RepE C ρ H (wipeE env own) (wipe σ own) ∧ H D0 = some (.lst vs) ∧ Reps C ρ H acc vs ∧ acc.length ≤ i ∧
    compR t tt f (wipeE env own) (ds.drop i) ro w = .ok r2 wf ∧ r = acc ++ r2
  have h0 : I 0 (upd H1 D0 (.lst [])) := by
    obtain ⟨x, s⟩ := hide_new (o := .lst []) s1 hD
    refine ⟨ρ1.hide D0, w1, [], [], r, ⟨⟨[], by simp⟩, rfl, fun a o e n => ⟨by rw [upd_ne (ne_of_none e hD)]; exact e, n⟩, fun a ha => upd_ne fun e => (s1.fresh hD).2 (e ▸ ha)⟩, rfl, s, wipeE_ok (e1.extR x) own, upd_same, rfl, Nat.le_refl _, hr, rfl⟩
  refine ⟨fun i m H => i + m = ds.length ∧ I i H, ⟨ds.length, by omega, h0⟩, fun i m H ⟨hm, ρ, w, acc, vs, r2, xo, hh, s, e, hDv, hacc, hai, hcomp, hr2⟩ => ?_⟩
  have wk := walk i ρ H _ (ext_outR xo hh hD) s
  have hDm : D0 ∈ ρ.h := by rw [hh]; exact List.mem_cons_self
  cases hd : ds[i]? with
  | none =>
    have hl := List.getElem?_eq_none_iff.mp hd
    rw [List.drop_eq_nil_of_le hl] at hcomp
    cases (show (Out.ok [] w : Out (List D)) = .ok r2 wf from hcomp)
    refine .inl ⟨wk.2 hd, k ρ H vs xo hh s hDv ?_⟩
    rw [hr2, List.append_nil]
    exact hacc
  | some d =>
    have hl := (List.getElem?_eq_some_iff.mp hd).1
    have hdrop : ds.drop i = d :: ds.drop (i + 1) := by
      rw [List.drop_eq_getElem_cons hl, (List.getElem?_eq_some_iff.mp hd).2]
    rw [hdrop] at hcomp
    obtain ⟨go, yl⟩ := wk.1 d hd
    refine .inr ⟨go, fun H' => I (i + 1) H', fun H' h => ⟨m - 1, by omega, by omega, h⟩, fun y H' hy => ?_⟩
    obtain ⟨x3, s3, r3⟩ := yl y H' hy
    unfold compR at hcomp
    cases hput : t.put d (wipeE env own) with
    | none =>
      simp only [hput] at hcomp
      cases hcomp
    | some env1 =>
      simp only [hput] at hcomp
      obtain ⟨b, w4, hb, hcomp⟩ := bind_ok hcomp
      replace hb := calm_ok hb
      refine Tg.ok (e.ext x3) r3 hput fun us e3 => ⟨wipe_set ht, ρ, env1, ro, w, s3, e3, ?_⟩
      rw [hb]
      intro b' ρ4 H4 x4 s4 rb
      cases (show b = b' from rb)
      have e4 := e3.ext x4
      have xo4 := ext_out (ext_out xo hh hD x3) hh hD x4
      have hh4 : ρ4.h = D0 :: ρ1.h := x4.hid.trans hh
      have hDv4 : H4 D0 = some (.lst vs) := by rw [x4.same D0 hDm, x3.same D0 hDm]; exact hDv
      cases b with
      | false =>
        rw [if_neg Bool.false_ne_true] at hcomp ⊢
        exact ⟨ρ4, w4, acc, vs, r2, xo4, hh4, s4, (e.ext x3).ext x4, hDv4, Reps.ext x4 acc (Reps.ext x3 acc hacc), by omega, hcomp, hr2⟩
      | true =>
        rw [if_pos rfl] at hcomp ⊢
        obtain ⟨x, w5, hx, hcomp⟩ := bind_ok hcomp
        obtain ⟨r5, w6, hr5, hcomp⟩ := bind_ok hcomp
        cases (show (Out.ok (x :: r5) w6 : Out (List D)) = .ok r2 wf from hcomp)
        replace hx := calm_ok hx
        refine ⟨ρ4, env1, ro, w4, s4, e4, ?_⟩
        rw [hx]
        intro z ρ5 H5 x5 s5 r5'
        have hDm4 : D0 ∈ ρ4.h := by rw [hh4]; exact List.mem_cons_self
        have hh5 : ρ5.h = D0 :: ρ1.h := x5.hid.trans hh4
        have hDm5 : D0 ∈ ρ5.h := by rw [hh5]; exact List.mem_cons_self
        have hDv5 : H5 D0 = some (.lst vs) := by rw [x5.same D0 hDm4]; exact hDv4
        have hacc5 := Reps.ext x5 acc (Reps.ext x4 acc (Reps.ext x3 acc hacc))
        refine ⟨vs, hDv5, by rw [← hacc5.len]; omega, ?_⟩
        obtain ⟨x6, s6⟩ := hide_put (o := .lst (vs ++ [z])) s5 hDm5
        refine ⟨ρ5, w5, acc ++ [x], vs ++ [z], r5, ext_upd (ext_out xo4 hh4 hD x5) hD (s1.fresh hD).2, hh5, s6, (((e.ext x3).ext x4).ext x5).extR x6, upd_same, (Reps.extR x6 acc hacc5).append (Reps.one (Rep.extR x6 x r5')), by simp; omega, hr5, by rw [hr2]; simp⟩
end

section
variable {X : Cx} {W : WX} {pos p pos' : Pos} {elt tg iter : Expr} {ifs : List Expr} {scope : Scope} {own : List (Str × Nat)} {it : Env → M (List D)} {tt : Env → M Bool} {f : EF} {t : Tg}
/-- what stands behind the comprehension -/
def KOk (C : Cfg) (k : List D → M D) : Prop := ∀ (W : WX) (σ : L2.St) (ρ1 ρ2 : Zn) (H1 H2 : Hp) (ro w r v1 : List D) (a : Addr) (vs : List V) (Q : VK), RepS C ρ1 H1 v1 → Ext ρ1 ⟨ρ2.r, ρ1.h⟩ H1 H2 → ρ2.h = a :: ρ1.h → RepS C ρ2 H2 (ro ++ w) → H1 a = none → H2 a = some (.lst vs) → Reps C ρ2 H2 r vs →
  AfterR C (Rep C) W σ ρ1 H1 ro (k r ro w) Q → Q (.ref a) H2
theorem kStill_ok {C : Cfg} : KOk C kStill := fun W σ ρ1 ρ2 H1 H2 ro w r v1 a vs Q s1 x hh s ha e hr q => by
  obtain ⟨xe, se⟩ := hide_end s hh
  exact q (.ref a) _ H2 x se ⟨a, vs, rfl, .inl ⟨⟨(s.hid a (by rw [hh]; exact List.mem_cons_self)).1, (s1.fresh ha).2⟩, .inl e⟩, Reps.extR xe r hr⟩
theorem tE_comp {k : List D → M D} (hk : KOk (cfg X) k) (ht : ∀ i ∈ t.slots, i ∈ own.map (·.2)) {σ : L2.St} {H : Hp} {Q : VK} (q : tE (cfg X) W (cComp t (own.map (·.2)) it tt f k) σ H Q) :
    tLc (tI (cfg X) W it) (t.g X.K) (tT (cfg X) W0 tt) (tE (cfg X) W0 f) (own.map (·.2)) σ H Q := by
  obtain ⟨ρ, env, ro, w, hS, hE, q⟩ := q
  unfold cComp few at q
  unfold M.bind at q
  refine ⟨ρ, env, ro, w, hS, hE, ?_⟩
  cases ei : it env ro w with
  | no =>
    simp only [M.bind, ei] at q
    exact q
  | exn c ns xs w1 =>
    simp only [M.bind, ei] at q
    exact q
  | ok ds w1 =>
    simp only [M.bind, ei] at q
    by_cases hn : ds.length ≤ sizeLine
    · simp only [if_pos hn] at q
      intro J ρ1 H1 x1 s1 walk D0 hD
      rcases compR_never (t := t) (tt := tt) (f := f) (env := wipeE env (own.map (·.2))) (ro := ro) ds (w := w1) with ⟨r, wf, hr⟩ | hr
      · simp only [hr] at q
        exact lc_ok (C := cfg X) ht hn walk s1 (hE.ext x1) hD hr fun ρ2 H2 vs x2 hh s2 e2 r2 => hk W σ ρ1 ρ2 H1 H2 ro wf r _ D0 vs Q s1 x2 hh s2 hD e2 r2 (AfterR.ext x1 q)
      · simp only [hr] at q
        exact (show False from q).elim
    · simp only [if_neg hn] at q
      exact (show False from q).elim
theorem pf_lc {k : List D → M D} (hk : KOk (cfg X) k) (ht : ∀ i ∈ t.slots, i ∈ own.map (·.2)) (hc : X.calm = true) (hN : X.N.Nodup) (hi : PI X tg iter (tI (cfg X) W it)) (ok : BlkOk X.N X.env.scope scope own)
    (hg : ∀ (s : Shared) (H : Hp) (C : Addr) (cl : List (Str × Addr)) (fp : List Addr), PG (X.blk s H scope (compEnvC scope cl C X.env) fp) tg (t.g X.K)) (hq : ∀ (s : Shared) (H : Hp) (C : Addr) (cl : List (Str × Addr)) (fp : List Addr), PTs (X.blk s H scope (compEnvC scope cl C X.env) fp) ifs (tT (cfg X) W0 tt))
    (he : ∀ (s : Shared) (H : Hp) (C : Addr) (cl : List (Str × Addr)) (fp : List Addr), PE (X.blk s H scope (compEnvC scope cl C X.env) fp) elt (tE (cfg X) W0 f)) (hs : ∀ x, foldedSetIterable iter X.env x = pure x := by intro _; rfl) :
    PE X (.ListComp elt [⟨tg, iter, ifs, 0⟩] scope pos) (tE (cfg X) W (cComp t (own.map (·.2)) it tt f k)) := pe_imp (pe_lc hc hN hi ok hg hq he hs) fun _ _ _ q => tE_comp hk ht q
theorem f_setLc {k : List D → M D} (i : Nat) {y : Str} {py : Pos} (hk : KOk (cfg X) k) (ht : ∀ i ∈ t.slots, i ∈ own.map (·.2)) (hc : X.calm = true) (hN : X.N.Nodup) (hsw : swapsWith (.ListComp elt [⟨tg, iter, ifs, 0⟩] scope pos) (some (.Name y py)) pos'.line X.env = pure true) (hi : PI X tg iter (tI (cfg X) W it)) (ok : BlkOk X.N X.env.scope scope own)
    (hg : ∀ (s : Shared) (H : Hp) (C : Addr) (cl : List (Str × Addr)) (fp : List Addr), PG (X.blk s H scope (compEnvC scope cl C X.env) fp) tg (t.g X.K)) (hq : ∀ (s : Shared) (H : Hp) (C : Addr) (cl : List (Str × Addr)) (fp : List Addr), PTs (X.blk s H scope (compEnvC scope cl C X.env) fp) ifs (tT (cfg X) W0 tt))
    (he : ∀ (s : Shared) (H : Hp) (C : Addr) (cl : List (Str × Addr)) (fp : List Addr), PE (X.blk s H scope (compEnvC scope cl C X.env) fp) elt (tE (cfg X) W0 f)) (hs : ∀ x, foldedSetIterable iter X.env x = pure x := by intro _; rfl) (hy : X.N[i]? = some y := by rfl) (hyl : X.env.scope.names.lookup y = some .local := by rfl) :
    PS X (.Assign [.Name y py] (.ListComp elt [⟨tg, iter, ifs, 0⟩] scope pos) pos') (tS (cfg X) W (sSet i (cComp t (own.map (·.2)) it tt f k))) := ps_imp (ps_setLc hc hN hy hyl hsw hi ok hg hq he hs) fun D σ H ⟨ρ, env, ro, w, hS, hE, q⟩ => by
  refine tE_comp hk ht ?_
  exact tS_seq hS hE q fun d w1 v ρ1 H1 x1 s1 e1 r1 q1 => q1 _ ρ1 H1 .refl s1 (e1.set r1)
theorem fts_nil {C : Cfg} : PTs X [] (tT C W cYes) := ⟨fun pins s σ H Q I q => pts_nil.run pins s σ H Q I (by
  obtain ⟨ρ, env, ro, w, hS, hE, q⟩ := q
  exact q true ρ H .refl hS rfl)⟩
theorem fts_one {C : Cfg} {c : Expr} (h : PT X c (tT C W tt)) : PTs X [c] (tT C W tt) := pts_one h
end
end Fx
namespace Fx
open PySem PySem.Spec L2

/-! ### a def's promise -/
def spF (C : Cfg) (g : List D → M D) (n : Nat) : Sp := fun vs H Q E => ∃ ρ ds ro w, vs.length = n ∧ RepS C ρ H (ro ++ w) ∧ Reps C ρ H ds vs ∧ AfterR C (Rep C) (fun c d _ H => E c d H) [] ρ H ro (g ds ro w) Q
/-- a def of the top, by its name, keeps it with n calls -/
structure CallOk (P : Program) (w : World) (K : PySem.W.Frag) (mg : Str → Option Value) (base : Heap) (n : Nat) (x : Str) (g : List D → M D) (np : Nat) : Prop where
  ex : ∃ a fd ps, mg x = some (.ref a) ∧ PySem.W.keepIn K (.ref a) = true ∧ Binds K fd ps [] ∧ ps.length = np ∧ FnOk P w K mg base (L2.CX P w) n a fd ps (spF ⟨K, mg, w⟩ g np)
abbrev CallX (X : Cx) (n : Nat) (x : Str) (g : List D → M D) (np : Nat) : Prop := CallOk X.prog X.w X.K X.mg X.base n x g np
/-- what is raised in a call is what this place wishes -/
abbrev PassW (X : Cx) (W : WX) : Prop := ∀ σ, PassesAt (L2.CX X.prog X.w) X σ (WE W σ)
theorem pass_of {X : Cx} {W : WX} (tk : Takes X W) : PassW X W := fun σ => passAt tk σ
theorem pass_0 {X : Cx} : PassW X W0 := fun σ _ _ _ _ _ _ h => by
  obtain ⟨_, _, _, _, _, _, _, _, _, _, _, _, z⟩ := h
  exact (show False from z).elim
section
variable {X : Cx} {W : WX} {pos p : Pos} {e : Expr} {es : List Expr} {x : Str} {g : List D → M D} {np n : Nat} {fs : Env → M (List D)}
theorem AfterR.sig {α β : Type} {C : Cfg} {R : Zn → Hp → α → β → Prop} {W : WX} {σ : L2.St} {ρ : Zn} {H : Hp} {ro : List D} {o : Out α} {Q : β → Hp → Prop} (h : AfterR C R W σ ρ H ro o Q) : AfterR C R (fun c d _ H => W c d σ H) [] ρ H ro o Q := by
  cases o with
  | ok d w => exact h
  | exn c ns xs w => exact h
  | no => exact h
theorem pf_call (F : CallX X n x g np) (hr : Room n X.A) (hx : PassW X W) (hg : Gl X x) (ha : PA X (e :: es) (tA (cfg X) W fs)) (hdb : (x == ("__debug__" : Str)) = false := by decide) (hl : ∀ ds : List D, ds.length = np → True := by intros; trivial)
    (he : starEach (e :: es) X.env = (false, eval e X.env) :: starEach es X.env := by rfl) (hpl : (backTo pos (starEach es X.env)).any (·.1) = false := by rfl) : PE X (.Call (.Name x p) (e :: es) [] pos) (tE (cfg X) W (cCall (fun ds => if ds.length = np then g ds else M.no) fs)) := by
  obtain ⟨a, fd, ps, hm, hk, hb, hps, ok⟩ := F.ex
  refine pe_imp (pe_callS ok hr hg hm hk hb hx ha hdb he hpl) fun σ H Q ⟨ρ, env, ro, w, hS, hE, q⟩ => ?_
  refine tR_seq hS hE q fun ds w1 vs ρ1 H1 x1 s1 r1 q1 => ?_
  by_cases c : ds.length = np
  · rw [if_pos c] at q1
    exact ⟨ρ1, ds, ro, w1, by rw [← r1.len]; exact c, s1, r1, q1.sig⟩
  · rw [if_neg c] at q1
    exact (show False from q1).elim
def cCall0 (g : List D → M D) : EF := fun _ => g []
end

/-! ### a def by its body -/
def runDef (np N : Nat) (body : SF) : List D → M D := fun ds ro w => if ds.length = np then (match body (ds.map some ++ List.replicate (N - np) none) ro w with
  | .go .nx _ w' => .ok .non w'
  | .go (.rt d) _ w' => .ok d w'
  | .exn c ns xs _ w' => .exn c ns xs w'
  | _ => .no) else .no
theorem reps_start {C : Cfg} {ρ : Zn} {H : Hp} {N : List Str} {ds : List D} {vs : List V} (r : Reps C ρ H ds vs) : RepE C ρ H (ds.map some ++ List.replicate (N.length - ds.length) none) (L2.start N vs) := by
  unfold L2.start
  refine ⟨by simp [r.len], fun i d e => ?_⟩
  by_cases hi : i < ds.length
  · rw [List.getElem?_append_left (by simpa using hi), List.getElem?_map] at e
    cases q : ds[i]? with
    | none =>
      rw [q] at e
      cases e
    | some d' =>
      rw [q] at e
      cases e
      obtain ⟨v, h1, h2⟩ := r.get q
      have hv := (List.getElem?_eq_some_iff.mp h1).1
      exact ⟨v, by rw [List.getElem?_append_left (by simpa using hv), List.getElem?_map, h1]; rfl, h2⟩
  · rw [List.getElem?_append_right (by simpa using hi), List.getElem?_replicate] at e
    split at e <;> cases e
section
variable {P : Program} {w : World} {K : PySem.W.Frag} {mg : Str → Option Value} {base : Heap}
theorem def_ok {x qual : Str} {st : Stmt} {f : Addr} {fd : FuncData} {N ps : List Str} {k : Nat} {body : SF} (F : Fun K x qual st f fd) (S : FnScope N ps (defScope st))
    (h : ∀ (cdv : Value) (A : Around) (outer : List PySem.Env) (s : Shared) (H : Hp) (E : XK), Room k (A.deeper (PyProof.Rows.envOfC qual (defScope st) s.heap.objs.size f cdv)) →
      PSs (cxOf (L2.CX P w) P w K mg base N qual (defScope st) f cdv A outer s H E) (defBody st) (tS ⟨K, mg, w⟩ (fun c d _ H => E c d H) body)) :
    FnOk P w K mg base (L2.CX P w) (k + 1) f fd ps (spF ⟨K, mg, w⟩ (runDef ps.length N.length body) ps.length) := by
  refine F.okX S (fun vs H Q E h => ?_) fun cdv A outer s H vs Q E hr hsp => ?_
  · obtain ⟨ρ, ds, ro, w, hl, _⟩ := h
    exact hl
  · refine ⟨_, h cdv A outer s H E hr, ?_⟩
    obtain ⟨ρ, ds, ro, wl, hl, hS, hR, q⟩ := hsp
    have hdl : ds.length = ps.length := by rw [hR.len]; exact hl
    refine ⟨ρ, ds.map some ++ List.replicate (N.length - ds.length) none, ro, wl, hS, reps_start hR, ?_⟩
    unfold runDef at q
    rw [if_pos hdl, ← hdl] at q
    cases e : body (ds.map some ++ List.replicate (N.length - ds.length) none) ro wl with
    | no =>
      rw [e] at q
      exact q
    | exn c ns xs env w' =>
      rw [e] at q
      exact fun cls dx σ' ρ' H' x s e2 rx => q cls dx ρ' H' x s rx
    | go fl env w' =>
      rw [e] at q
      cases fl with
      | nx => exact fun σ' ρ' H' x s e2 => q .non ρ' H' x s rfl
      | rt d => exact fun v ρ' H' x s r => q v ρ' H' x s r
      | bk => exact (show False from q).elim
      | ct => exact (show False from q).elim
/-- nothing is promised -/
theorem no_ok {f : Addr} {fd : FuncData} {ps : List Str} {k : Nat} : FnOk P w K mg base (L2.CX P w) k f fd ps (spF ⟨K, mg, w⟩ (fun _ => M.no) ps.length) := by
  have no : ∀ vs H Q E, ¬ spF ⟨K, mg, w⟩ (fun _ => M.no) ps.length vs H Q E := fun vs H Q E h => by
    obtain ⟨ρ, ds, ro, w, _, _, _, q⟩ := h
    exact q
  exact ⟨fun vs H Q E h => absurd h (no vs H Q E), fun A outer s H args us vs Q E _ _ _ _ h => absurd h (no vs H Q E)⟩
end

/-! ### things that end with a call -/
mutual
/-- the changing objects told by φ -/
def D.tell (φ : Nat → Option D) : D → Option D
  | .ref n => φ n
  | .tup ds => (D.tells φ ds).map .tup
  | .lst ds => (D.tells φ ds).map .lst
  | .dic ks ds => (D.tells φ ds).map (.dic ks)
  | .dct ks ds => (D.tells φ ds).map (.dct ks)
  | .ins c ns ds => (D.tells φ ds).map (.ins c ns)
  | d => some d
def D.tells (φ : Nat → Option D) : List D → Option (List D)
  | [] => some []
  | d :: ds => match D.tell φ d, D.tells φ ds with
    | some d', some ds' => some (d' :: ds')
    | _, _ => none
end
/-- n: how many objects the caller has; w: the own ones -/
def told (n : Nat) (w : List D) : Nat → Nat → Option D
  | 0, m => if m < n then some (.ref m) else none
  | k + 1, m => if m < n then some (.ref m) else match w[m - n]? with
    | some o => D.tell (told n w k) o
    | none => none
mutual
def D.under (n : Nat) : D → Bool
  | .ref m => decide (m < n)
  | .tup ds => D.unders n ds
  | .lst ds => D.unders n ds
  | .dic _ ds => D.unders n ds
  | .dct _ ds => D.unders n ds
  | .ins _ _ ds => D.unders n ds
  | _ => true
def D.unders (n : Nat) : List D → Bool
  | [] => true
  | d :: ds => D.under n d && D.unders n ds
end
section
variable {C : Cfg} {ρ ρ' : Zn} {H H' : Hp} {n : Nat}
abbrev Zn.take (ρ : Zn) (n : Nat) : Zn := ⟨ρ.r.take n, ρ.h⟩
theorem Out.take {a : Addr} (h : ρ.Out a) : (ρ.take n).Out a := ⟨fun z => h.1 (List.mem_of_mem_take z), h.2⟩
theorem Still.take {a : Addr} {u : HO} (h : Still ρ H a u) : Still (ρ.take n) H a u := ⟨Out.take h.1, h.2⟩
mutual
/-- what is a key holds nothing that changes -/
theorem Rep.ktrunc : ∀ (d : D) {v : V} {κ : NestedKey}, toKey d = some κ → Rep C ρ H d v → Rep C (ρ.take n) H d v
  | .int _, v, κ, _, h => h
  | .str _, v, κ, _, h => h
  | .tup ds, v, κ, e, ⟨a, vs, e1, h1, r⟩ => by
    unfold toKey at e
    cases q : toKeys ds with
    | none => rw [q] at e; cases e
    | some ks => exact ⟨a, vs, e1, h1.imp Still.take id, Reps.ktrunc ds q r⟩
  | .non, v, κ, e, _ => by cases e
  | .bl _, v, κ, e, _ => by cases e
  | .fn _, v, κ, e, _ => by cases e
  | .rng _, v, κ, e, _ => by cases e
  | .ref _, v, κ, e, _ => by cases e
  | .lst _, v, κ, e, _ => by cases e
  | .dic _ _, v, κ, e, _ => by cases e
  | .dct _ _, v, κ, e, _ => by cases e
  | .ins _ _ _, v, κ, e, _ => by cases e
theorem Reps.ktrunc : ∀ (ds : List D) {vs : List V} {ks : List NestedKey}, toKeys ds = some ks → Reps C ρ H ds vs → Reps C (ρ.take n) H ds vs
  | [], vs, ks, _, h => h
  | d :: ds, vs, ks, e, ⟨v, r, ev, h1, h2⟩ => by
    unfold toKeys at e
    cases q1 : toKey d with
    | none => simp only [q1] at e; cases e
    | some d1 =>
      cases q2 : toKeys ds with
      | none => simp only [q1, q2] at e; cases e
      | some ds2 => exact ⟨v, r, ev, Rep.ktrunc d q1 h1, Reps.ktrunc ds q2 h2⟩
end
theorem DEnts.trunc {w : World} {es : List DictEntry} {ks : List D} {as : List Addr} {vs : List V} (en : DEnts w es ks as vs) : Reps C ρ H ks (as.map .ref) → Reps C (ρ.take n) H ks (as.map .ref) := by
  induction en with
  | nil => exact id
  | cons h1 _ _ _ _ _ ih =>
    rintro ⟨v, r, ev, k1, k2⟩
    simp only [List.map_cons, List.cons.injEq] at ev
    obtain ⟨e1, e2⟩ := ev
    subst e1 e2
    exact ⟨_, _, rfl, Rep.ktrunc _ h1 k1, ih k2⟩
mutual
theorem Rep.tell {φ : Nat → Option D} (hφ : ∀ m d v, φ m = some d → Rep C ρ H (.ref m) v → Rep C (ρ.take n) H d v) : ∀ (d : D) {d' : D} {v : V}, D.tell φ d = some d' → Rep C ρ H d v → Rep C (ρ.take n) H d' v
  | .non, d', v, e, h => by cases e; exact h
  | .bl b, d', v, e, h => by cases e; exact h
  | .int b, d', v, e, h => by cases e; exact h
  | .str b, d', v, e, h => by cases e; exact h
  | .fn b, d', v, e, h => by cases e; exact h
  | .rng b, d', v, e, h => by
    cases e
    obtain ⟨a, e1, h1⟩ := h
    exact ⟨a, e1, Still.take h1⟩
  | .ref m, d', v, e, h => hφ m d' v e h
  | .tup ds, d', v, e, h => by
    unfold D.tell at e
    cases q : D.tells φ ds with
    | none => rw [q] at e; cases e
    | some ds' =>
      rw [q] at e
      cases e
      obtain ⟨a, vs, e1, h1, r⟩ := h
      exact ⟨a, vs, e1, h1.imp Still.take id, Reps.tell hφ ds q r⟩
  | .lst ds, d', v, e, h => by
    unfold D.tell at e
    cases q : D.tells φ ds with
    | none => rw [q] at e; cases e
    | some ds' =>
      rw [q] at e
      cases e
      obtain ⟨a, vs, e1, h1, r⟩ := h
      exact ⟨a, vs, e1, h1.imp Still.take id, Reps.tell hφ ds q r⟩
  | .dic ks ds, d', v, e, h => by
    unfold D.tell at e
    cases q : D.tells φ ds with
    | none => rw [q] at e; cases e
    | some ds' =>
      rw [q] at e
      cases e
      obtain ⟨a, kvs, e1, h1, k, r⟩ := h
      exact ⟨a, kvs, e1, Still.take h1, k, Reps.tell hφ ds q r⟩
  | .dct ks ds, d', v, e, h => by
    unfold D.tell at e
    cases q : D.tells φ ds with
    | none => rw [q] at e; cases e
    | some ds' =>
      rw [q] at e
      cases e
      obtain ⟨a, es, ep, as, vs, e1, h1, en, nd, rk, r⟩ := h
      exact ⟨a, es, ep, as, vs, e1, Still.take h1, en, nd, en.trunc rk, Reps.tell hφ ds q r⟩
  | .ins c ns ds, d', v, e, h => by
    unfold D.tell at e
    cases q : D.tells φ ds with
    | none => rw [q] at e; cases e
    | some ds' =>
      rw [q] at e
      cases e
      obtain ⟨a, A, dx, fs, e1, m, nn, h1, k, r⟩ := h
      exact ⟨a, A, dx, fs, e1, m, Out.take nn, h1, k, Reps.tell hφ ds q r⟩
theorem Reps.tell {φ : Nat → Option D} (hφ : ∀ m d v, φ m = some d → Rep C ρ H (.ref m) v → Rep C (ρ.take n) H d v) : ∀ (ds : List D) {ds' : List D} {vs : List V}, D.tells φ ds = some ds' → Reps C ρ H ds vs → Reps C (ρ.take n) H ds' vs
  | [], ds', vs, e, h => by cases e; exact h
  | d :: ds, ds', vs, e, ⟨v, r, ev, h1, h2⟩ => by
    unfold D.tells at e
    cases q1 : D.tell φ d with
    | none => simp only [q1] at e; cases e
    | some d1 =>
      cases q2 : D.tells φ ds with
      | none => simp only [q1, q2] at e; cases e
      | some ds2 =>
        simp only [q1, q2] at e
        cases e
        exact ⟨v, r, ev, Rep.tell hφ d q1 h1, Reps.tell hφ ds q2 h2⟩
end
mutual
theorem Rep.below : ∀ (d : D) {v : V}, Rep C ρ H d v → D.under ρ.r.length d = true
  | .non, v, h => rfl
  | .bl b, v, h => rfl
  | .int b, v, h => rfl
  | .str b, v, h => rfl
  | .fn b, v, h => rfl
  | .rng b, v, h => rfl
  | .ref m, v, ⟨a, e, _⟩ => decide_eq_true (List.getElem?_eq_some_iff.mp e).1
  | .tup ds, v, ⟨a, vs, _, _, r⟩ => Reps.below ds r
  | .lst ds, v, ⟨a, vs, _, _, r⟩ => Reps.below ds r
  | .dic ks ds, v, ⟨a, kvs, _, _, _, r⟩ => Reps.below ds r
  | .dct ks ds, v, ⟨a, es, ep, as, vs, _, _, _, _, _, r⟩ => Reps.below ds r
  | .ins c ns ds, v, ⟨a, A, dx, fs, _, _, _, _, _, r⟩ => Reps.below ds r
theorem Reps.below : ∀ (ds : List D) {vs : List V}, Reps C ρ H ds vs → D.unders ρ.r.length ds = true
  | [], vs, h => rfl
  | d :: ds, vs, ⟨v, r, _, h1, h2⟩ => by
    unfold D.unders
    rw [Rep.below d h1, Reps.below ds h2]
    rfl
end
mutual
theorem Rep.trunc : ∀ (d : D) {v : V}, D.under n d = true → Rep C ρ H d v → Rep C (ρ.take n) H d v
  | .non, v, _, h => h
  | .bl b, v, _, h => h
  | .int b, v, _, h => h
  | .str b, v, _, h => h
  | .fn b, v, _, h => h
  | .rng b, v, _, ⟨a, e, h⟩ => ⟨a, e, Still.take h⟩
  | .ref m, v, b, ⟨a, e, e2⟩ => ⟨a, by
    show (ρ.r.take n)[m]? = _
    rw [List.getElem?_take_of_lt (of_decide_eq_true b)]
    exact e, e2⟩
  | .tup ds, v, b, ⟨a, vs, e, h, r⟩ => ⟨a, vs, e, h.imp Still.take id, Reps.trunc ds b r⟩
  | .lst ds, v, b, ⟨a, vs, e, h, r⟩ => ⟨a, vs, e, h.imp Still.take id, Reps.trunc ds b r⟩
  | .dic ks ds, v, b, ⟨a, kvs, e, h, k, r⟩ => ⟨a, kvs, e, Still.take h, k, Reps.trunc ds b r⟩
  | .dct ks ds, v, b, ⟨a, es, ep, as, vs, e, h, en, nd, rk, r⟩ => ⟨a, es, ep, as, vs, e, Still.take h, en, nd, en.trunc rk, Reps.trunc ds b r⟩
  | .ins c ns ds, v, b, ⟨a, A, dx, fs, e, m, nn, h, k, r⟩ => ⟨a, A, dx, fs, e, m, Out.take nn, h, k, Reps.trunc ds b r⟩
theorem Reps.trunc : ∀ (ds : List D) {vs : List V}, D.unders n ds = true → Reps C ρ H ds vs → Reps C (ρ.take n) H ds vs
  | [], vs, _, h => h
  | d :: ds, vs, b, ⟨v, r, e, h1, h2⟩ => by
    have b' : D.under n d = true ∧ D.unders n ds = true := by simpa [D.unders] using b
    exact ⟨v, r, e, Rep.trunc d b'.1 h1, Reps.trunc ds b'.2 h2⟩
end
theorem RepO.below {d : D} {a : Addr} (h : RepO C ρ H d a) : D.under ρ.r.length d = true := by
  cases d with
  | lst ds => obtain ⟨vs, _, r⟩ := h; exact Reps.below ds r
  | dic ks ds => obtain ⟨vs, _, _, r⟩ := h; exact Reps.below ds r
  | dct ks ds => obtain ⟨es, ep, as, vs, _, _, _, _, r⟩ := h; exact Reps.below ds r
  | ins c ns ds => obtain ⟨A, dx, fs, _, _, _, r⟩ := h; exact Reps.below ds r
  | _ => exact (show False from h).elim
theorem RepO.trunc {d : D} {a : Addr} (b : D.under n d = true) (h : RepO C ρ H d a) : RepO C (ρ.take n) H d a := by
  cases d with
  | lst ds => obtain ⟨vs, e, r⟩ := h; exact ⟨vs, e, Reps.trunc ds b r⟩
  | dic ks ds => obtain ⟨vs, e, k, r⟩ := h; exact ⟨vs, e, k, Reps.trunc ds b r⟩
  | dct ks ds => obtain ⟨es, ep, as, vs, e, en, nd, rk, r⟩ := h; exact ⟨es, ep, as, vs, e, en, nd, en.trunc rk, Reps.trunc ds b r⟩
  | ins c ns ds => obtain ⟨A, dx, fs, m, e, k, r⟩ := h; exact ⟨A, dx, fs, m, e, k, Reps.trunc ds b r⟩
  | _ => exact (show False from h).elim
theorem RepS.take {w : List D} (hS : RepS C ρ H w) (hb : ∀ i d, i < n → w[i]? = some d → D.under n d = true) : RepS C (ρ.take n) H (w.take n) := by
  refine ⟨by simp [hS.len], hS.nd.sublist (List.take_sublist _ _), fun i a d h1 h2 => ?_, fun a ha => ⟨fun z => (hS.hid a ha).1 (List.mem_of_mem_take z), (hS.hid a ha).2⟩⟩
  have hi : i < n := by
    have := (List.getElem?_eq_some_iff.mp h2).1
    rw [List.length_take] at this
    omega
  replace h1 : (ρ.r.take n)[i]? = some a := h1
  rw [List.getElem?_take_of_lt hi] at h1 h2
  exact RepO.trunc (hb i d hi h2) (hS.obj i a d h1 h2)
theorem told_ok {ro w : List D} (hS : RepS C ρ H (ro ++ w)) : ∀ (k m : Nat) (d : D) (v : V), told ro.length w k m = some d → Rep C ρ H (.ref m) v → Rep C (ρ.take ro.length) H d v
  | 0, m, d, v, e, h => by
    unfold told at e
    by_cases c : m < ro.length
    · rw [if_pos c] at e
      cases e
      exact Rep.trunc (.ref m) (decide_eq_true c) h
    · rw [if_neg c] at e
      cases e
  | k + 1, m, d, v, e, h => by
    unfold told at e
    by_cases c : m < ro.length
    · rw [if_pos c] at e
      cases e
      exact Rep.trunc (.ref m) (decide_eq_true c) h
    · rw [if_neg c] at e
      cases q : w[m - ro.length]? with
      | none => rw [q] at e; cases e
      | some o =>
        rw [q] at e
        obtain ⟨a, ha, rfl⟩ := h
        have hm : (ro ++ w)[m]? = some o := by
          rw [List.getElem?_append_right (by omega)]
          exact q
        have hO := hS.obj m a o ha hm
        have an : (ρ.take ro.length).Out a := by
          refine ⟨fun z => ?_, fun z => (hS.hid a z).1 (List.mem_of_getElem? ha)⟩
          obtain ⟨j, hj, ej⟩ := List.mem_iff_getElem.mp z
          rw [List.length_take] at hj
          rw [List.getElem_take] at ej
          obtain ⟨hm', em⟩ := List.getElem?_eq_some_iff.mp ha
          have := (List.getElem_inj hS.nd).mp (ej.trans em.symm)
          omega
        cases o with
        | lst ds =>
          replace e : D.tell (told ro.length w k) (.lst ds) = some d := e
          unfold D.tell at e
          cases q2 : D.tells (told ro.length w k) ds with
          | none => rw [q2] at e; cases e
          | some ds' =>
            rw [q2] at e
            cases e
            obtain ⟨vs, e1, r⟩ := hO
            exact ⟨a, vs, rfl, .inl ⟨an, .inl e1⟩, Reps.tell (told_ok hS k) ds q2 r⟩
        | dic ks ds =>
          replace e : D.tell (told ro.length w k) (.dic ks ds) = some d := e
          unfold D.tell at e
          cases q2 : D.tells (told ro.length w k) ds with
          | none => rw [q2] at e; cases e
          | some ds' =>
            rw [q2] at e
            cases e
            obtain ⟨kvs, e1, kk, r⟩ := hO
            exact ⟨a, kvs, rfl, ⟨an, .inl e1⟩, kk, Reps.tell (told_ok hS k) ds q2 r⟩
        | dct ks ds =>
          replace e : D.tell (told ro.length w k) (.dct ks ds) = some d := e
          unfold D.tell at e
          cases q2 : D.tells (told ro.length w k) ds with
          | none => rw [q2] at e; cases e
          | some ds' =>
            rw [q2] at e
            cases e
            obtain ⟨es, ep, as, vs, e1, en, nd, rk, r⟩ := hO
            exact ⟨a, es, ep, as, vs, rfl, ⟨an, .inl e1⟩, en, nd, en.trunc rk, Reps.tell (told_ok hS k) ds q2 r⟩
        | ins c ns ds =>
          replace e : D.tell (told ro.length w k) (.ins c ns ds) = some d := e
          unfold D.tell at e
          cases q2 : D.tells (told ro.length w k) ds with
          | none => rw [q2] at e; cases e
          | some ds' =>
            rw [q2] at e
            cases e
            obtain ⟨A, dx, fs, mm, e1, kk, r⟩ := hO
            exact ⟨a, A, dx, fs, rfl, mm, an, e1, kk, Reps.tell (told_ok hS k) ds q2 r⟩
        | _ => exact (show False from hO).elim
end
/-- a def that changes nothing of its caller's: it sees them, and what it makes ends with it -/
def pureD (g : List D → M D) : List D → M D := fun ds ro w => match g ds (ro ++ w) [] with
  | .ok d w' => (match D.tell (told (ro ++ w).length w' 4) d with
    | some d' => .ok d' w
    | none => .no)
  | .exn c ns xs w' => (match D.tells (told (ro ++ w).length w' 4) xs with
    | some xs' => .exn c ns xs' w
    | none => .no)
  | .no => .no
section
variable {P : Program} {w : World} {K : PySem.W.Frag} {mg : Str → Option Value} {base : Heap}
theorem RepX.tell {C : Cfg} {ρ : Zn} {H : Hp} {n : Nat} {φ : Nat → Option D} (hφ : ∀ m d v, φ m = some d → Rep C ρ H (.ref m) v → Rep C (ρ.take n) H d v) {c : Str} {ns : List Str} {xs xs' : List D} {cls : Value} {dx : Option Addr} (e : D.tells φ xs = some xs') (h : RepX C ρ H c ns xs cls dx) : RepX C (ρ.take n) H c ns xs' cls dx := by
  obtain ⟨A, h1, h2, h3⟩ := h
  refine ⟨A, h1, h2, ?_⟩
  rcases h3 with ⟨e1, e2, e3⟩ | ⟨d, fs, e1, e0, e2, e3, e4, r⟩
  · subst e2
    cases e
    exact .inl ⟨e1, rfl, e3⟩
  · exact .inr ⟨d, fs, e1, e0, Out.take e2, e3, e4, Reps.tell hφ xs e r⟩
end
end Fx
namespace Fx
open PySem PySem.Spec L2

/-! ### in, not in -/
def D.sc : D → Bool
  | .non => true | .bl _ => true | .int _ => true | .str _ => true
  | _ => false
def D.eqs : D → D → Bool
  | .non, .non => true
  | .bl a, .bl b => a == b
  | .bl a, .int b => (if a then 1 else 0) == b
  | .int a, .bl b => a == (if b then 1 else 0)
  | .int a, .int b => a == b
  | .str a, .str b => a == b
  | _, _ => false
section
variable {C : Cfg} {ρ : Zn} {H : Hp}
theorem Rep.sc {d : D} {v : V} (h : d.sc = true) (r : Rep C ρ H d v) : flatV v = true := by
  cases d with
  | non => rw [show v = .non from r]; rfl
  | bl b => rw [show v = .bl b from r]; rfl
  | int b => rw [show v = .int b from r]; rfl
  | str b => rw [show v = .str b from r]; rfl
  | _ => cases h
theorem Rep.eqs {d e : D} {v u : V} (h : d.sc = true) (h' : e.sc = true) (r : Rep C ρ H d v) (r' : Rep C ρ H e u) : eqV v u = d.eqs e := by
  cases d with
  | non =>
    rw [show v = .non from r]
    cases e with
    | non => rw [show u = .non from r']; rfl
    | bl b => rw [show u = .bl b from r']; rfl
    | int b => rw [show u = .int b from r']; rfl
    | str b => rw [show u = .str b from r']; rfl
    | _ => cases h'
  | bl b =>
    rw [show v = .bl b from r]
    cases e with
    | non => rw [show u = .non from r']; rfl
    | bl b => rw [show u = .bl b from r']; rfl
    | int b => rw [show u = .int b from r']; rfl
    | str b => rw [show u = .str b from r']; rfl
    | _ => cases h'
  | int b =>
    rw [show v = .int b from r]
    cases e with
    | non => rw [show u = .non from r']; rfl
    | bl b => rw [show u = .bl b from r']; rfl
    | int b => rw [show u = .int b from r']; rfl
    | str b => rw [show u = .str b from r']; rfl
    | _ => cases h'
  | str b =>
    rw [show v = .str b from r]
    cases e with
    | non => rw [show u = .non from r']; rfl
    | bl b => rw [show u = .bl b from r']; rfl
    | int b => rw [show u = .int b from r']; rfl
    | str b => rw [show u = .str b from r']; rfl
    | _ => cases h'
  | _ => cases h
theorem Reps.sc : ∀ {ds : List D} {vs : List V}, ds.all D.sc = true → Reps C ρ H ds vs → vs.all flatV = true
  | [], vs, _, h => by
    cases (show vs = [] from h)
    rfl
  | d :: ds, vs, h, ⟨v, r, e, h1, h2⟩ => by
    subst e
    rw [List.all_cons, Bool.and_eq_true] at h ⊢
    exact ⟨Rep.sc h.1 h1, Reps.sc h.2 h2⟩
theorem Reps.inV {e : D} {u : V} (h' : e.sc = true) (r' : Rep C ρ H e u) : ∀ {ds : List D} {vs : List V}, ds.all D.sc = true → Reps C ρ H ds vs → L2.inV u vs = ds.any fun d => d.eqs e
  | [], vs, _, h => by
    cases (show vs = [] from h)
    rfl
  | d :: ds, vs, h, ⟨v, r, eq, h1, h2⟩ => by
    subst eq
    rw [List.all_cons, Bool.and_eq_true] at h
    unfold L2.inV
    rw [List.any_cons, List.any_cons, Rep.eqs h.1 h' h1 r']
    congr 1
    exact Reps.inV h' r' h.2 h2
end
def isSign (x : Str) : Option Nat := match x.cps.toList with
  | [c] => some c
  | _ => none
theorem isSign_eq {x : Str} {c : Nat} (h : isSign x = some c) : x = ⟨#[c]⟩ := by
  unfold isSign at h
  split at h
  · rename_i q
    cases h
    obtain ⟨a⟩ := x
    obtain ⟨l⟩ := a
    simp only at q
    subst q
    rfl
  · cases h
/-- x in y -/
def inD (x y : D) : Option Bool := match y with
  | .tup ds => if x.sc && ds.all D.sc then some (ds.any fun d => d.eqs x) else none
  | .lst ds => if x.sc && ds.all D.sc then some (ds.any fun d => d.eqs x) else if x.cmp && (D.lst ds).cmp then some (ds.any fun d => PyData.eqv d.py x.py) else none
  | .str z => match x with
    | .str c => match isSign c with
      | some k => some (decide (k ∈ z.cps.toList))
      | none => none
    | _ => none
  | _ => none
def gIn (x y : D) : M D := fun _ w => match inD x y with
  | some b => .ok (.bl b) w
  | none => .no
def gNotIn (x y : D) : M D := fun _ w => match inD x y with
  | some b => .ok (.bl (!b)) w
  | none => .no
def rInF (K : PySem.W.Frag) (neg : Bool) : R2 := fun x y H Q => rIn K neg x y H Q ∨ (if neg then rNotInD K x y H Q else rInD K x y H Q) ∨ (∃ (c : Nat) (z : Str), x = .str ⟨#[c]⟩ ∧ y = .str z ∧ Q (.bl (if neg then !decide (c ∈ z.cps.toList) else decide (c ∈ z.cps.toList))) H)
section
variable {X : Cx} {C : Cfg}
theorem opf_in (hu : X.A.units + 65 < cLine) : OpR X (compareOp .In) (rInF X.K false) := op_in_seq.or ((op_inD hu).or op_in_sign)
theorem opf_notIn (hu : X.A.units + 65 < cLine) : OpR X (compareOp .NotIn) (rInF X.K true) := op_notIn_seq.or ((op_notInD hu).or op_notIn_sign)
theorem any_pys {x : D} : ∀ ds : List D, (D.pys ds).any (fun z => PyData.eqv z x.py) = ds.any fun d => PyData.eqv d.py x.py
  | [] => rfl
  | d :: ds => by
    show (d.py :: D.pys ds).any _ = _
    rw [List.any_cons, List.any_cons, any_pys ds]
theorem in_core {ρ : Zn} {H : Hp} {d e : D} {x y : V} {b : Bool} (neg : Bool) {Q : VK} (hd : Seen C ρ H d x) (he : Seen C ρ H e y) (h : inD d e = some b) (q : Q (.bl (if neg then !b else b)) H) : rInF C.K neg x y H Q := by
  have scal : d.sc = true → Rep C ρ H d x := fun s => by
    rcases hd with h | ⟨a, _, h⟩
    · exact h
    · cases d <;> first | exact (show False from h).elim | cases s
  cases e with
  | tup ds =>
    unfold inD at h
    dsimp only at h
    by_cases c : (d.sc && ds.all D.sc) = true
    · rw [if_pos c] at h
      cases h
      rw [Bool.and_eq_true] at c
      obtain ⟨p, vs, rfl, hp, r⟩ := he.tup
      refine .inl ⟨p, vs, rfl, .inr hp, Rep.sc c.1 (scal c.1), r.sc c.2, ?_⟩
      rw [Reps.inV c.1 (scal c.1) c.2 r]
      exact q
    · rw [if_neg c] at h
      cases h
  | lst ds =>
    unfold inD at h
    dsimp only at h
    obtain ⟨p, vs, rfl, hp, r⟩ := he.lst
    by_cases c : (d.sc && ds.all D.sc) = true
    · rw [if_pos c] at h
      cases h
      rw [Bool.and_eq_true] at c
      refine .inl ⟨p, vs, rfl, .inl hp, Rep.sc c.1 (scal c.1), r.sc c.2, ?_⟩
      rw [Reps.inV c.1 (scal c.1) c.2 r]
      exact q
    · rw [if_neg c] at h
      by_cases c2 : (d.cmp && (D.lst ds).cmp) = true
      · rw [if_pos c2] at h
        cases h
        rw [Bool.and_eq_true] at c2
        obtain ⟨f1, s1⟩ := Bool.and_eq_true_iff.mp c2.1
        obtain ⟨f2, s2⟩ := Bool.and_eq_true_iff.mp c2.2
        have h2 : Dp C.K H (.ref p) (.list (D.pys ds)) := .lst hp (Reps.dp ds (by simpa [D.flat] using f2) r)
        rw [← any_pys] at q
        cases neg with
        | false => exact .inr (.inl (by rw [if_neg Bool.false_ne_true]; exact ⟨d.py, D.pys ds, hd.dp f1, h2, s1, s2, q⟩))
        | true => exact .inr (.inl (by rw [if_pos rfl]; exact ⟨d.py, D.pys ds, hd.dp f1, h2, s1, s2, q⟩))
      · rw [if_neg c2] at h
        cases h
  | str z =>
    cases d with
    | str k =>
      unfold inD at h
      dsimp only at h
      cases hk : isSign k with
      | none =>
        rw [hk] at h
        cases h
      | some c =>
        rw [hk] at h
        cases h
        exact .inr (.inr ⟨c, z, by rw [hd.str, isSign_eq hk], he.str, q⟩)
    | _ => cases h
  | _ => cases h
theorem ok2_in : Ok2 C (rInF C.K false) gIn := by
  intro W σ ρ H ro w d e x y Q hS hd he q
  unfold gIn at q
  cases h : inD d e with
  | none =>
    rw [h] at q
    exact (show False from q).elim
  | some b =>
    rw [h] at q
    exact in_core false hd he h (ok_bl hS q)
theorem ok2_notIn : Ok2 C (rInF C.K true) gNotIn := by
  intro W σ ρ H ro w d e x y Q hS hd he q
  unfold gNotIn at q
  cases h : inD d e with
  | none =>
    rw [h] at q
    exact (show False from q).elim
  | some b =>
    rw [h] at q
    exact in_core true hd he h (ok_bl hS q)
theorem hu65 {k : Nat} {A : Around} (r : Room k A) : A.units + 65 < cLine := by
  have := r.un
  omega
end

/-! ### reversed(list) -/
section
variable {X : Cx} {W : WX} {pos p : Pos} {e tg : Expr} {fs : Env → M (List D)}
def gRev : List D → M (List D)
  | [.lst ds] => M.pure ds.reverse
  | _ => M.no
def cRev (fs : Env → M (List D)) : Env → M (List D) := fun env => M.bind (fs env) gRev
end
end Fx
namespace Fx
open PySem PySem.Spec L2

/-- the end of a law's row: what the law's function gives -/
theorem law_end {l : PySem.W.OpenLaw} {q : Program} {loose : List Str} {XP : (Str → Option Value) → Heap → Prop} {YP : World → Heap → Prop} {d : DefRec} {K : Params → PySem.W.Frag} {x : Str} {N : Nat} {g : List D → M D}
    (hn : l.most = some 63) (hdf : d.params.defaults = []) (hr : Room N callerA)
    (hY : ∀ (w : World) (h : Heap), YP w h → (K w.params).In h)
    (F : ∀ (w : World) (mg : Str → Option Value) (fa : Addr) (h : Heap), (K w.params).In h → h.Ns mainGlobals mg → mg d.name = some (.ref fa) →
      ∃ fd : FuncData, (∀ (s : Shared) (u : Value), BindsTo s fd ⟨[u], []⟩ [(x, u)]) ∧
        ∀ base : Heap, (K w.params).In base → base.Ns mainGlobals mg → FnOk l.prog w (K w.params) mg base (L2.CX l.prog w) N fa fd [x] (spF ⟨K w.params, mg, w⟩ g 1))
    (hlaw : ∀ ns : List Int, ns.length ≤ 63 → ∃ w', g [.lst (ns.map .int)] [] [] = .ok (.bl true) w') :
    PySem.W.WalkO q loose XP YP l.row.toRowW d [] (fun f vs => PySem.call f vs) := by
  refine L2.walk_of (n := 63) (k := N) (x := x) (CX := fun w => L2.CX l.prog w) (sp := fun w vs H Q _ => ∃ (a : Addr) (ns : List Int), vs = [.ref a] ∧ SqL (K w.params) H a (ns.map V.int) ∧ ns.length ≤ 63 ∧ ∀ H', Q (.bl true) H')
    hn (by decide) hdf hr hY (fun w mg fa h KX G hm => ?_) (fun w H a ns hl _ hS => ⟨a, ns, rfl, hS, hl, fun _ => rfl⟩) (fun w H s e s' h => ?_)
  · obtain ⟨fd, hb, hF⟩ := F w mg fa h KX G hm
    refine ⟨fd, hb, fun base h1 h2 => (hF base h1 h2).imp fun vs H Q E ⟨a, ns, e, hS, hl, q⟩ => ?_⟩
    subst e
    obtain ⟨w', hw⟩ := hlaw ns hl
    have reps : ∀ ns : List Int, Reps ⟨K w.params, mg, w⟩ ⟨[], []⟩ H (ns.map D.int) (ns.map V.int) := fun ns => by
      induction ns with
      | nil => exact rfl
      | cons n ns ih => exact ⟨_, _, rfl, rfl, ih⟩
    refine ⟨⟨[], []⟩, [.lst (ns.map .int)], [], [], rfl, ⟨rfl, List.nodup_nil, fun i a d e => by simp at e, fun a ha => by cases ha⟩, Reps.one ⟨a, _, rfl, ?_, reps ns⟩, ?_⟩
    · rcases hS with h | h
      · exact .inl ⟨⟨by simp, by simp⟩, h⟩
      · exact .inr h
    · rw [hw]
      intro v ρ' H' _ _ r
      rw [show v = .bl true from r]
      exact q H'
  · obtain ⟨_, _, _, _, _, _, _, _, _, _, _, _, z⟩ := h
    exact z
/-- a written tuple of texts -/
theorem gk_texts {K : PySem.W.Frag} {mg : Str → Option Value} {x : Str} {t : Addr} {dd : Option Addr} {sl : Array (Option Value)} {ep : Nat} {xs : List Str} {its : List Value} (hm : mg x = some (.ref t)) (hk : K.lookup t = some ⟨.type "tuple", dd, .seq its.toArray ep, sl⟩)
    (hv : Vals (xs.map V.str) its) (hl : xs.length ≤ 1000) : GK ⟨K, mg, w⟩ x (.tup (xs.map D.str)) := by
  have e := hv.length
  rw [List.length_map] at e
  have reps : ∀ (xs : List Str) (C : Cfg) (ρ : Zn) (H : Hp), Reps C ρ H (xs.map D.str) (xs.map V.str) := fun xs C ρ H => by
    induction xs with
    | nil => exact rfl
    | cons n ns ih => exact ⟨_, _, rfl, rfl, ih⟩
  exact ⟨.ref t, .ref t, hm, rfl, fun ρ H => ⟨t, _, rfl, .inr ⟨_, its.toArray, ep, hk, rfl, rfl, by rw [List.size_toArray, ← e]; exact Nat.le_of_lt (small1000 hl), by simpa using hv⟩, reps xs _ ρ H⟩⟩
end Fx
/-! What the functions give: rewriting by values. -/
namespace Fx
open PySem PySem.Spec L2

def Out.an {α β : Type} (o : Out α) (f : α → List D → Out β) : Out β := match o with
  | .ok a w => f a w
  | .exn c ns xs w => .exn c ns xs w
  | .no => .no
def Out.st {α : Type} (o : Out α) (env : Env) (f : α → List D → OS) : OS := match o with
  | .ok a w => f a w
  | .exn c ns xs w => .exn c ns xs env w
  | .no => .no
def OS.an (o : OS) (f : Env → List D → OS) : OS := match o with
  | .go .nx env w => f env w
  | o => o
def OS.turn (o : OS) (f : Env → List D → OS) : OS := match o with
  | .go .nx env w => f env w
  | .go .ct env w => f env w
  | .go .bk env w => .go .nx env w
  | .go (.rt d) env w => .go (.rt d) env w
  | .exn c ns xs env w => .exn c ns xs env w
  | .no => .no
def OS.fin (o : OS) : Out D := match o with
  | .go .nx _ w => .ok .non w
  | .go (.rt d) _ w => .ok d w
  | .exn c ns xs _ w => .exn c ns xs w
  | _ => .no
def Out.calm {α : Type} (o : Out α) : Out α := match o with
  | .ok a w => .ok a w
  | _ => .no
def ofO (o : Option (Option D)) (w : List D) : Out D := match o with
  | some (some d) => .ok d w
  | _ => .no
section
variable {α β : Type} {m : M α} {f : α → M β} {a : α} {ro w w' : List D} {env env' : Env} {c : Str} {ns : List Str} {xs : List D} {d e : D} {g : α → List D → Out β} {h : Env → List D → OS} {k : α → List D → OS}
@[simp] theorem an_ok : (Out.ok a w).an g = g a w := rfl
@[simp] theorem an_exn : (Out.exn c ns xs w : Out α).an g = .exn c ns xs w := rfl
@[simp] theorem an_no : (Out.no : Out α).an g = .no := rfl
@[simp] theorem st_ok : (Out.ok a w).st env k = k a w := rfl
@[simp] theorem st_exn : (Out.exn c ns xs w : Out α).st env k = .exn c ns xs env w := rfl
@[simp] theorem st_no : (Out.no : Out α).st env k = .no := rfl
@[simp] theorem oan_nx : (OS.go .nx env w).an h = h env w := rfl
@[simp] theorem oan_rt : (OS.go (.rt d) env w).an h = .go (.rt d) env w := rfl
@[simp] theorem oan_bk : (OS.go .bk env w).an h = .go .bk env w := rfl
@[simp] theorem oan_ct : (OS.go .ct env w).an h = .go .ct env w := rfl
@[simp] theorem oan_exn : (OS.exn c ns xs env w).an h = .exn c ns xs env w := rfl
@[simp] theorem oan_no : OS.no.an h = .no := rfl
@[simp] theorem tn_nx : (OS.go .nx env w).turn h = h env w := rfl
@[simp] theorem tn_ct : (OS.go .ct env w).turn h = h env w := rfl
@[simp] theorem tn_bk : (OS.go .bk env w).turn h = .go .nx env w := rfl
@[simp] theorem tn_rt : (OS.go (.rt d) env w).turn h = .go (.rt d) env w := rfl
@[simp] theorem tn_exn : (OS.exn c ns xs env w).turn h = .exn c ns xs env w := rfl
@[simp] theorem tn_no : OS.no.turn h = .no := rfl
@[simp] theorem fin_nx : (OS.go .nx env w).fin = .ok .non w := rfl
@[simp] theorem fin_rt : (OS.go (.rt d) env w).fin = .ok d w := rfl
@[simp] theorem fin_exn : (OS.exn c ns xs env w).fin = .exn c ns xs w := rfl
@[simp] theorem fin_no : OS.no.fin = .no := rfl
@[simp] theorem calm_ok' : (Out.ok a w).calm = .ok a w := rfl
@[simp] theorem calm_no : (Out.no : Out α).calm = .no := rfl
@[simp] theorem ofO_ss : ofO (some (some d)) w = .ok d w := rfl
@[simp] theorem ofO_sn : ofO (some none) w = .no := rfl
@[simp] theorem ofO_n : ofO none w = .no := rfl
@[simp] theorem x_bind : M.bind m f ro w = (m ro w).an fun a w' => f a ro w' := by
  unfold M.bind
  cases m ro w <;> rfl
@[simp] theorem x_pure : M.pure a ro w = .ok a w := rfl
@[simp] theorem x_no : (M.no : M α) ro w = .no := rfl
@[simp] theorem x_calm : M.calm m ro w = (m ro w).calm := by
  unfold M.calm
  cases m ro w <;> rfl
@[simp] theorem x_see : M.see d ro w = .ok (see ro w d) w := rfl
@[simp] theorem see_non : see ro w .non = .non := rfl
@[simp] theorem see_int {i : Int} : see ro w (.int i) = .int i := rfl
@[simp] theorem see_str {i : Str} : see ro w (.str i) = .str i := rfl
@[simp] theorem see_bl {i : Bool} : see ro w (.bl i) = .bl i := rfl
@[simp] theorem see_tup {ds : List D} : see ro w (.tup ds) = .tup ds := rfl
@[simp] theorem see_lst {ds : List D} : see ro w (.lst ds) = .lst ds := rfl
@[simp] theorem see_dct {ks ds : List D} : see ro w (.dct ks ds) = .dct ks ds := rfl
@[simp] theorem see_dic {ks ds : List D} : see ro w (.dic ks ds) = .dic ks ds := rfl
theorem see_ref {n : Nat} : see ro w (.ref n) = ((ro ++ w)[n]?).getD .non := rfl
@[simp] theorem x_var {i : Nat} : cVar i env ro w = ofO env[i]? w := by
  unfold cVar
  cases env[i]? with
  | none => rfl
  | some o => cases o <;> rfl
@[simp] theorem x_k : cK d env ro w = .ok d w := rfl
@[simp] theorem x_args0 : cArgs [] env ro w = .ok [] w := rfl
@[simp] theorem x_args {f : EF} {fs : List EF} : cArgs (f :: fs) env ro w = (f env ro w).an fun d w1 => (cArgs fs env ro w1).an fun ds w2 => .ok (d :: ds) w2 := by
  show M.bind (f env) (fun d => M.bind (cArgs fs env) fun ds => M.pure (d :: ds)) ro w = _
  simp
@[simp] theorem x_call {g : List D → M D} {fs : Env → M (List D)} : cCall g fs env ro w = (fs env ro w).an fun ds w1 => g ds ro w1 := by
  show M.bind (fs env) g ro w = _
  simp
@[simp] theorem x_call0 {g : List D → M D} : cCall0 g env ro w = g [] ro w := rfl
@[simp] theorem x_one {g : D → M D} : one g [d] ro w = g (see ro w d) ro w := rfl
@[simp] theorem x_tup {fs : Env → M (List D)} : cTup fs env ro w = (fs env ro w).an fun ds w1 => .ok (.tup ds) w1 := by
  show M.bind (fs env) _ ro w = _
  simp
@[simp] theorem x_lst {fs : Env → M (List D)} : cLst fs env ro w = (fs env ro w).an fun ds w1 => .ok (.lst ds) w1 := by
  show M.bind (fs env) _ ro w = _
  simp
@[simp] theorem x_new : mNew d ro w = .ok (.ref (ro.length + w.length)) (w ++ [d]) := by
  unfold mNew
  rw [List.length_append]
@[simp] theorem x_lstM {fs : Env → M (List D)} : cLstM fs env ro w = (fs env ro w).an fun ds w1 => .ok (.ref (ro.length + w1.length)) (w1 ++ [.lst ds]) := by
  show M.bind (fs env) _ ro w = _
  simp
@[simp] theorem x_bin {g : D → D → M D} {fa fb : EF} : cBin g fa fb env ro w = (fa env ro w).an fun d w1 => (fb env ro w1).an fun e w2 => g (see ro w2 d) (see ro w2 e) ro w2 := by
  show M.bind (fa env) _ ro w = _
  simp
@[simp] theorem x_un {g : D → M D} {fa : EF} : cUn g fa env ro w = (fa env ro w).an fun d w1 => g d ro w1 := by
  show M.bind (fa env) _ ro w = _
  simp
/-! truth -/
def Out.obl (o : Option Bool) (w : List D) : Out Bool := match o with
  | some b => .ok b w
  | none => .no
@[simp] theorem obl_s {b : Bool} : Out.obl (some b) w = .ok b w := rfl
@[simp] theorem bool_bl {b : Bool} : M.bool (.bl b) ro w = .ok b w := rfl
@[simp] theorem truth_bl {b : Bool} : M.truth (.bl b) ro w = .ok b w := rfl
@[simp] theorem truth_non : M.truth .non ro w = .ok false w := rfl
@[simp] theorem truth_int {i : Int} : M.truth (.int i) ro w = .ok (i != 0) w := rfl
@[simp] theorem truth_lst {ds : List D} : M.truth (.lst ds) ro w = .ok (!ds.isEmpty) w := rfl
@[simp] theorem truth_tup {ds : List D} : M.truth (.tup ds) ro w = .ok (!ds.isEmpty) w := rfl
@[simp] theorem x_test {fa : EF} : cTest fa env ro w = (fa env ro w).an fun d w1 => M.bool d ro w1 := by
  show M.bind (fa env) _ ro w = _
  simp
@[simp] theorem x_tru {fa : EF} : cTru fa env ro w = (fa env ro w).an fun d w1 => M.truth (see ro w1 d) ro w1 := by
  show M.bind (fa env) _ ro w = _
  simp
@[simp] theorem x_yes : cYes env ro w = .ok true w := rfl
variable {ta tb : Env → M Bool} {fa fb : EF}
@[simp] theorem x_andT : cAndT ta tb env ro w = (ta env ro w).an fun b w1 => if b = true then tb env ro w1 else .ok false w1 := by
  show M.bind (ta env) _ ro w = _
  rw [x_bind]
  congr
  funext b w1
  cases b <;> rfl
@[simp] theorem x_orT : cOrT ta tb env ro w = (ta env ro w).an fun b w1 => if b = true then .ok true w1 else tb env ro w1 := by
  show M.bind (ta env) _ ro w = _
  rw [x_bind]
  congr
  funext b w1
  cases b <;> rfl
@[simp] theorem x_notT : cNotT ta env ro w = (ta env ro w).an fun b w1 => .ok (!b) w1 := by
  show M.bind (ta env) _ ro w = _
  simp
@[simp] theorem x_if : cIf ta fa fb env ro w = (ta env ro w).an fun b w1 => if b = true then fa env ro w1 else fb env ro w1 := by
  show M.bind (ta env) _ ro w = _
  rw [x_bind]
  congr
  funext b w1
  cases b <;> rfl
def andV (d : D) (o : List D → Out D) (w : List D) : Out D := match d with
  | .bl true => o w
  | .bl false => .ok (.bl false) w
  | _ => .no
def orV (d : D) (o : List D → Out D) (w : List D) : Out D := match d with
  | .bl true => .ok (.bl true) w
  | .bl false => o w
  | _ => .no
@[simp] theorem andV_bl {b : Bool} {o : List D → Out D} : andV (.bl b) o w = if b = true then o w else .ok (.bl false) w := by cases b <;> rfl
@[simp] theorem orV_bl {b : Bool} {o : List D → Out D} : orV (.bl b) o w = if b = true then .ok (.bl true) w else o w := by cases b <;> rfl
@[simp] theorem x_and : cAnd fa fb env ro w = (fa env ro w).an fun d w1 => andV d (fb env ro) w1 := by
  show M.bind (fa env) _ ro w = _
  rw [x_bind]
  congr
  funext d w1
  cases d with
  | bl b => cases b <;> rfl
  | _ => rfl
@[simp] theorem x_or : cOr fa fb env ro w = (fa env ro w).an fun d w1 => orV d (fb env ro) w1 := by
  show M.bind (fa env) _ ro w = _
  rw [x_bind]
  congr
  funext d w1
  cases d with
  | bl b => cases b <;> rfl
  | _ => rfl
def notV (d : D) (w : List D) : Out D := match d with
  | .bl b => .ok (.bl (!b)) w
  | _ => .no
@[simp] theorem notV_bl {b : Bool} : notV (.bl b) w = .ok (.bl (!b)) w := rfl
@[simp] theorem x_not : cNot fa env ro w = (fa env ro w).an fun d w1 => notV d w1 := by
  show M.bind (fa env) _ ro w = _
  rw [x_bind]
  congr
  funext d w1
  cases d <;> rfl
/-! operators -/
variable {i j : Int} {x y : Str}
@[simp] theorem add_int : gAdd (.int i) (.int j) ro w = .ok (.int (i + j)) w := rfl
@[simp] theorem add_str : gAdd (.str x) (.str y) ro w = if x.length + y.length ≤ sizeLine then .ok (.str (x ++ y)) w else .no := rfl
@[simp] theorem add_tup {ds es : List D} : gAdd (.tup ds) (.tup es) ro w = if ds.length + es.length ≤ sizeLine then .ok (.tup (ds ++ es)) w else .no := rfl
@[simp] theorem add_lst {ds es : List D} : gAdd (.lst ds) (.lst es) ro w = if ds.length + es.length ≤ sizeLine then .ok (.lst (ds ++ es)) w else .no := rfl
@[simp] theorem sub_int : Fx.gSub (.int i) (.int j) ro w = .ok (.int (i - j)) w := rfl
@[simp] theorem mul_int : gMul (.int i) (.int j) ro w = if i.natAbs < 2 ^ 64 ∨ j.natAbs < 2 ^ 64 then .ok (.int (i * j)) w else .no := rfl
@[simp] theorem div_int : gDiv (.int i) (.int j) ro w = if 0 < j ∧ j.natAbs < 1073741824 then .ok (.int (i / j)) w else .no := rfl
@[simp] theorem mod_int : gMod (.int i) (.int j) ro w = if 0 < j then .ok (.int (i % j)) w else .no := rfl
@[simp] theorem lt_int : gLt (.int i) (.int j) ro w = .ok (.bl (decide (i < j))) w := rfl
@[simp] theorem le_int : gLe (.int i) (.int j) ro w = .ok (.bl (decide (i ≤ j))) w := rfl
@[simp] theorem gt_int : gGt (.int i) (.int j) ro w = .ok (.bl (decide (j < i))) w := rfl
@[simp] theorem ge_int : gGe (.int i) (.int j) ro w = .ok (.bl (decide (j ≤ i))) w := rfl
@[simp] theorem neg_int : gNeg (.int i) ro w = .ok (.int (-i)) w := rfl
@[simp] theorem isN : gIsN d .non ro w = .ok (.bl d.isNon) w := rfl
@[simp] theorem notN : gNotN d .non ro w = .ok (.bl (!d.isNon)) w := rfl
@[simp] theorem isNon_non : D.non.isNon = true := rfl
@[simp] theorem isNon_bl {b : Bool} : (D.bl b).isNon = false := rfl
@[simp] theorem isNon_int : (D.int i).isNon = false := rfl
@[simp] theorem isNon_str : (D.str x).isNon = false := rfl
@[simp] theorem isNon_tup {ds : List D} : (D.tup ds).isNon = false := rfl
@[simp] theorem isNon_lst {ds : List D} : (D.lst ds).isNon = false := rfl
theorem x_eq : gEq d e ro w = if (d.cmp && e.cmp) = true then .ok (.bl (PyData.eqv d.py e.py)) w else .no := rfl
theorem x_ne : gNe d e ro w = if (d.cmp && e.cmp) = true then .ok (.bl (!PyData.eqv d.py e.py)) w else .no := rfl
@[simp] theorem cmp_int : (D.int i).cmp = true := rfl
@[simp] theorem cmp_bl {b : Bool} : (D.bl b).cmp = true := rfl
@[simp] theorem eq_int : gEq (.int i) (.int j) ro w = .ok (.bl (decide (i = j))) w := by
  rw [x_eq, if_pos (by simp)]
  show Out.ok (D.bl (i == j)) w = _
  rw [Bool.beq_eq_decide_eq]
@[simp] theorem ne_int : gNe (.int i) (.int j) ro w = .ok (.bl (!decide (i = j))) w := by
  rw [x_ne, if_pos (by simp)]
  show Out.ok (D.bl (!(i == j))) w = _
  rw [Bool.beq_eq_decide_eq]
@[simp] theorem eq_bl {a b : Bool} : gEq (.bl a) (.bl b) ro w = .ok (.bl (decide (a = b))) w := by
  rw [x_eq, if_pos (by simp)]
  show Out.ok (D.bl (a == b)) w = _
  rw [Bool.beq_eq_decide_eq]
@[simp] theorem ne_bl {a b : Bool} : gNe (.bl a) (.bl b) ro w = .ok (.bl (!decide (a = b))) w := by
  rw [x_ne, if_pos (by simp)]
  show Out.ok (D.bl (!(a == b))) w = _
  rw [Bool.beq_eq_decide_eq]
def Out.od (o : Option D) (w : List D) : Out D := match o with
  | some d => .ok d w
  | none => .no
@[simp] theorem od_s : Out.od (some d) w = .ok d w := rfl
@[simp] theorem od_n : Out.od none w = .no := rfl
@[simp] theorem ix_tup {ds : List D} : gIx (.tup ds) (.int i) ro w = Out.od (L2.atI ds i) w := by
  unfold gIx Out.od
  cases h : L2.atI ds i <;> simp only [h]
@[simp] theorem ix_lst {ds : List D} : gIx (.lst ds) (.int i) ro w = Out.od (L2.atI ds i) w := by
  unfold gIx Out.od
  cases h : L2.atI ds i <;> simp only [h]
@[simp] theorem len_tup {ds : List D} : gLen (.tup ds) ro w = .ok (.int ds.length) w := rfl
@[simp] theorem len_lst {ds : List D} : gLen (.lst ds) ro w = .ok (.int ds.length) w := rfl
@[simp] theorem len_str : gLen (.str x) ro w = if x.length ≤ sizeLine then .ok (.int x.length) w else .no := rfl
@[simp] theorem int_int : gInt (.int i) ro w = .ok (.int i) w := rfl
@[simp] theorem int_bl {b : Bool} : gInt (.bl b) ro w = .ok (.int (if b then 1 else 0)) w := rfl
@[simp] theorem list_lst {ds : List D} : gList (.lst ds) ro w = .ok (.lst ds) w := rfl
@[simp] theorem list_tup {ds : List D} : gList (.tup ds) ro w = .ok (.lst ds) w := rfl
@[simp] theorem listM_lst {ds : List D} : gListM (.lst ds) ro w = .ok (.ref (ro.length + w.length)) (w ++ [.lst ds]) := by
  show mNew _ ro w = _
  simp
@[simp] theorem listM_tup {ds : List D} : gListM (.tup ds) ro w = .ok (.ref (ro.length + w.length)) (w ++ [.lst ds]) := by
  show mNew _ ro w = _
  simp
@[simp] theorem tuple_lst {ds : List D} : gTuple (.lst ds) ro w = .ok (.tup ds) w := rfl
@[simp] theorem tuple_tup {ds : List D} : gTuple (.tup ds) ro w = .ok (.tup ds) w := rfl
def isiV (t : Ty) (d : D) (w : List D) : Out D := match d.ty? with
  | some a => .ok (.bl (isTy a t)) w
  | none => .no
@[simp] theorem isi_non {t : Ty} : isiV t .non w = .ok (.bl (isTy .non t)) w := rfl
@[simp] theorem isi_int {t : Ty} : isiV t (.int i) w = .ok (.bl (isTy .int t)) w := rfl
@[simp] theorem isi_str {t : Ty} : isiV t (.str x) w = .ok (.bl (isTy .str t)) w := rfl
@[simp] theorem isi_bl {t : Ty} {b : Bool} : isiV t (.bl b) w = .ok (.bl (isTy .bl t)) w := rfl
@[simp] theorem isi_tup {t : Ty} {ds : List D} : isiV t (.tup ds) w = .ok (.bl (isTy .tup t)) w := rfl
@[simp] theorem isi_lst {t : Ty} {ds : List D} : isiV t (.lst ds) w = .ok (.bl (isTy .lst t)) w := rfl
@[simp] theorem x_isi {t : Ty} : cIsi t fa env ro w = (fa env ro w).an fun d w1 => isiV t (see ro w1 d) w1 := by
  show M.bind (fa env) _ ro w = _
  simp only [x_bind, x_see, an_ok]
  congr
  funext d w1
  unfold gIsi isiV
  cases (see ro w1 d).ty? <;> rfl
@[simp] theorem x_in {b : Bool} (h : inD d e = some b) : gIn d e ro w = .ok (.bl b) w := by
  unfold gIn
  rw [h]
@[simp] theorem x_notIn {b : Bool} (h : inD d e = some b) : gNotIn d e ro w = .ok (.bl (!b)) w := by
  unfold gNotIn
  rw [h]
@[simp] theorem x_noPart : cNoPart env ro w = .ok none w := rfl
def partV (d : D) (w : List D) : Out (Option Int) := match d with
  | .int i => .ok (some i) w
  | _ => .no
@[simp] theorem partV_int : partV (.int i) w = .ok (some i) w := rfl
@[simp] theorem x_part : cPart fa env ro w = (fa env ro w).an fun d w1 => partV d w1 := by
  show M.bind (fa env) _ ro w = _
  rw [x_bind]
  congr
  funext d w1
  cases d <;> rfl
@[simp] theorem x_sl {lo hi : Env → M (Option Int)} : cSl fa lo hi env ro w = (fa env ro w).an fun d w1 => (lo env ro w1).an fun i w2 => (hi env ro w2).an fun j w3 => gSl (see ro w3 d) i j ro w3 := by
  show M.bind (fa env) _ ro w = _
  simp
@[simp] theorem sl_lst {ds : List D} {lo hi : Option Int} : gSl (.lst ds) lo hi ro w = .ok (.lst (cut ds lo hi)) w := rfl
@[simp] theorem sl_tup {ds : List D} {lo hi : Option Int} : gSl (.tup ds) lo hi ro w = .ok (.tup (cut ds lo hi)) w := rfl
/-! statements -/
variable {s t : SF}
@[simp] theorem x_nil : sNil env ro w = .go .nx env w := rfl
@[simp] theorem x_pass : sPass env ro w = .go .nx env w := rfl
@[simp] theorem x_brk : sBrk env ro w = .go .bk env w := rfl
@[simp] theorem x_cnt : sCnt env ro w = .go .ct env w := rfl
@[simp] theorem x_seq : sSeq s t env ro w = (s env ro w).an fun env' w' => t env' ro w' := by
  unfold sSeq OS.an
  cases s env ro w with
  | go fl env w => cases fl <;> rfl
  | _ => rfl
theorem x_lift {f : Env → M α} {k : α → SF} : sLift f k env ro w = (f env ro w).st env fun a w' => k a env ro w' := by
  unfold sLift Out.st
  cases f env ro w <;> rfl
@[simp] theorem x_set {n : Nat} : sSet n fa env ro w = (fa env ro w).st env fun d w' => .go .nx (env.set n (some d)) w' := x_lift
@[simp] theorem x_ret : sRet fa env ro w = (fa env ro w).st env fun d w' => .go (.rt d) env w' := x_lift
@[simp] theorem x_retN : sRetN env ro w = .go (.rt .non) env w := rfl
@[simp] theorem x_expr : sExpr fa env ro w = (fa env ro w).st env fun _ w' => .go .nx env w' := x_lift
@[simp] theorem x_ifS : sIf ta s t env ro w = (ta env ro w).st env fun b w' => if b = true then s env ro w' else t env ro w' := by
  refine x_lift.trans ?_
  congr
  funext b w'
  cases b <;> rfl
@[simp] theorem x_put {fo fi fv : EF} : sPut fo fi fv env ro w = (fv env ro w).st env fun v w1 => (fo env ro w1).st env fun o w2 => (fi env ro w2).st env fun i w3 => (gPut v o i ro w3).st env fun _ w4 => .go .nx env w4 := by
  refine x_lift.trans (congrArg _ ?_)
  funext v w1
  refine x_lift.trans (congrArg _ ?_)
  funext o w2
  refine x_lift.trans (congrArg _ ?_)
  funext i w3
  exact x_lift
@[simp] theorem x_aug {n : Nat} {g : D → D → M D} : sAug n g fa env ro w = (cVar n env ro w).st env fun x w1 => (fa env ro w1).st env fun y w2 => (g (see ro w2 x) (see ro w2 y) ro w2).st env fun z w3 => .go .nx (env.set n (some z)) w3 := by
  refine x_lift.trans (congrArg _ ?_)
  funext v w1
  refine x_lift.trans (congrArg _ ?_)
  funext o w2
  refine x_lift.trans ?_
  simp
theorem x_for {tg : Tg} {it : Env → M (List D)} : sFor tg it s env ro w = (it env ro w).st env fun ds w' => forL tg s ds env ro w' := x_lift
@[simp] theorem for_nil {tg : Tg} : forL tg s [] env ro w = .go .nx env w := rfl
theorem for_cons {tg : Tg} {ds : List D} (h : tg.put d env = some env') : forL tg s (d :: ds) env ro w = (s env' ro w).turn fun env2 w2 => forL tg s ds env2 ro w2 := by
  show (match tg.put d env with
    | none => OS.no
    | some env1 => match s env1 ro w with
      | .go .nx env2 w2 => forL tg s ds env2 ro w2
      | .go .ct env2 w2 => forL tg s ds env2 ro w2
      | .go .bk env2 w2 => .go .nx env2 w2
      | .go (.rt d) env2 w2 => .go (.rt d) env2 w2
      | .exn c ns xs env2 w2 => .exn c ns xs env2 w2
      | .no => .no) = _
  rw [h]
  dsimp only
  cases s env' ro w with
  | go fl env w => cases fl <;> rfl
  | _ => rfl
@[simp] theorem for_nm {n : Nat} {ds : List D} : forL (.nm n) s (d :: ds) env ro w = (s (env.set n (some d)) ro w).turn fun env2 w2 => forL (.nm n) s ds env2 ro w2 := for_cons rfl
def seqV (d : D) (w : List D) : Out (List D) := match d with
  | .lst ds => .ok ds w
  | .tup ds => .ok ds w
  | _ => .no
@[simp] theorem seqV_lst {ds : List D} : seqV (.lst ds) w = .ok ds w := rfl
@[simp] theorem seqV_tup {ds : List D} : seqV (.tup ds) w = .ok ds w := rfl
@[simp] theorem x_seqI : cSeq fa env ro w = (fa env ro w).an fun d w1 => seqV d w1 := by
  show M.bind (fa env) _ ro w = _
  rw [x_bind]
  congr
  funext d w1
  cases d <;> rfl
@[simp] theorem x_rng1 {fs : Env → M (List D)} : cRng1 fs env ro w = (fs env ro w).an fun ds w1 => gRng1 ds ro w1 := by
  show M.bind (fs env) _ ro w = _
  simp
@[simp] theorem x_rng2 {fs : Env → M (List D)} : cRng2 fs env ro w = (fs env ro w).an fun ds w1 => gRng2 ds ro w1 := by
  show M.bind (fs env) _ ro w = _
  simp
theorem rng1_int : gRng1 [.int i] ro w = if i.natAbs < 2 ^ 62 then .ok (rngD 0 i.toNat) w else .no := rfl
theorem rng2_int : gRng2 [.int i, .int j] ro w = if i.natAbs < 2 ^ 62 ∧ j.natAbs < 2 ^ 62 then .ok (rngD i (j - i).toNat) w else .no := rfl
@[simp] theorem x_rev {fs : Env → M (List D)} : cRev fs env ro w = (fs env ro w).an fun ds w1 => gRev ds ro w1 := by
  show M.bind (fs env) _ ro w = _
  simp
@[simp] theorem rev_lst {ds : List D} : gRev [.lst ds] ro w = .ok ds.reverse w := rfl
theorem x_comp {tg : Tg} {own : List Nat} {it : Env → M (List D)} {k : List D → M D} : cComp tg own it ta fa k env ro w = (it env ro w).an fun ds w1 => if ds.length ≤ sizeLine then (compR tg ta fa (wipeE env own) ds ro w1).an fun r w2 => k r ro w2 else .no := by
  show M.bind (few it env) _ ro w = _
  unfold few
  simp only [x_bind]
  cases it env ro w with
  | ok ds w1 =>
    simp only [an_ok]
    by_cases h : ds.length ≤ sizeLine
    · simp only [if_pos h, an_ok]
    · simp only [if_neg h, an_no]
  | _ => rfl
@[simp] theorem comp_nil {tg : Tg} : compR tg ta fa env [] ro w = .ok [] w := rfl
theorem comp_cons {tg : Tg} {ds : List D} (h : tg.put d env = some env') : compR tg ta fa env (d :: ds) ro w = (ta env' ro w).calm.an fun b w1 => if b = true then (fa env' ro w1).calm.an fun x w2 => (compR tg ta fa env ds ro w2).an fun r w3 => .ok (x :: r) w3 else compR tg ta fa env ds ro w1 := by
  show (match tg.put d env with
    | none => M.no
    | some env1 => M.bind (M.calm (ta env1)) fun b => if b = true then M.bind (M.calm (fa env1)) fun x => M.bind (compR tg ta fa env ds) fun r => M.pure (x :: r) else compR tg ta fa env ds) ro w = _
  rw [h]
  simp only [x_bind, x_calm]
  congr
  funext b w1
  cases b <;> simp
@[simp] theorem comp_nm {n : Nat} {ds : List D} : compR (.nm n) ta fa env (d :: ds) ro w = (ta (env.set n (some d)) ro w).calm.an fun b w1 => if b = true then (fa (env.set n (some d)) ro w1).calm.an fun x w2 => (compR (.nm n) ta fa env ds ro w2).an fun r w3 => .ok (x :: r) w3 else compR (.nm n) ta fa env ds ro w1 := comp_cons rfl
@[simp] theorem x_still {ds : List D} : kStill ds ro w = .ok (.lst ds) w := rfl
@[simp] theorem x_mut {ds : List D} : kMut ds ro w = .ok (.ref (ro.length + w.length)) (w ++ [.lst ds]) := by
  show mNew _ ro w = _
  simp
theorem x_def {np N : Nat} {ds : List D} : runDef np N s ds ro w = if ds.length = np then (s (ds.map some ++ List.replicate (N - np) none) ro w).fin else .no := by
  unfold runDef OS.fin
  by_cases h : ds.length = np
  · simp only [if_pos h]
    all_goals
      cases s (ds.map some ++ List.replicate (N - np) none) ro w with
      | go fl env w => cases fl <;> rfl
      | _ => rfl
  · simp only [if_neg h]
/-! a list that changes -/
theorem mod_at {f : List D → Option (D × List D)} {n : Nat} {ds ds' : List D} (hn : ro.length ≤ n) (h : w[n - ro.length]? = some (.lst ds)) (hf : f ds = some (d, ds')) : mMod f (.ref n) ro w = .ok d (w.set (n - ro.length) (.lst ds')) := by
  unfold mMod
  simp only [if_neg (Nat.not_lt.mpr hn), h, hf]
def mlV (o : D) (k : List D → Out D) (w : List D) : Out D := match o with
  | .lst _ => k w
  | _ => .no
@[simp] theorem mlV_lst {ds : List D} {k : List D → Out D} : mlV (.lst ds) k w = k w := rfl
@[simp] theorem x_ml {g : List D → D → M D} {fo : EF} {fs : Env → M (List D)} : cMl g fo fs env ro w = (fo env ro w).an fun o w1 => mlV (see ro w1 o) (fun w1 => (fs env ro w1).an fun ds w2 => g ds o ro w2) w1 := by
  show M.bind (fo env) _ ro w = _
  simp only [x_bind, x_see, an_ok]
  congr
  funext o w1
  cases see ro w1 o <;> first | rfl | simp [mlV]
end
end Fx
/-! Equal data; formulas as data. -/
namespace Fx
open PySem PySem.Spec L2

theorem ofString_inj {a b : String} : (Str.ofString a = Str.ofString b) = (a = b) := by
  apply propext
  refine ⟨fun h => ?_, fun h => by rw [h]⟩
  rw [Str.ofString_eq_toList, Str.ofString_eq_toList] at h
  have h1 : a.toList.map Char.toNat = b.toList.map Char.toNat := by
    injection h with h
    have := congrArg Array.toList h
    simpa using this
  have inj : ∀ x y : Char, x.toNat = y.toNat → x = y := fun x y e => Char.toNat_inj.mp e
  have h2 : a.toList = b.toList := by
    revert h1
    generalize a.toList = l
    generalize b.toList = m
    induction l generalizing m with
    | nil => intro h; cases m <;> simp_all
    | cons x l ih =>
      intro h
      cases m with
      | nil => simp at h
      | cons y m =>
        simp only [List.map_cons, List.cons.injEq] at h
        rw [inj _ _ h.1, ih _ h.2]
  exact String.toList_inj.mp h2
noncomputable instance : DecidableEq D := fun _ _ => Classical.propDecidable _

@[simp] theorem ok_lit {a : String} : PyData.strOk (Str.ofString a) = true := by
  unfold PyData.strOk
  rw [Str.ofString_eq_toList, ← Array.all_toList]
  simp only [List.all_map, List.all_eq_true]
  intro c _
  have h := c.valid
  simp only [Function.comp, decide_eq_true_eq]
  rcases h with h | h
  · have : c.toNat < 0xd800 := h
    omega
  · have : c.toNat < 0x110000 := h.2
    omega

/-! ### data without truth values -/
mutual
def D.nb : D → Bool
  | .non => true
  | .int _ => true
  | .str _ => true
  | .tup ds => D.nbs ds
  | .lst ds => D.nbs ds
  | _ => false
def D.nbs : List D → Bool
  | [] => true
  | d :: ds => d.nb && D.nbs ds
end
mutual
theorem D.nb_flat : ∀ d : D, d.nb = true → d.flat = true
  | .non, _ => rfl
  | .int _, _ => rfl
  | .str _, _ => rfl
  | .tup ds, h => by
    simp only [D.nb] at h
    simpa only [D.flat] using D.nbs_flat ds h
  | .lst ds, h => by
    simp only [D.nb] at h
    simpa only [D.flat] using D.nbs_flat ds h
  | .bl _, h => by simp [D.nb] at h
  | .dic _ _, h => by simp [D.nb] at h
  | .dct _ _, h => by simp [D.nb] at h
  | .ins _ _ _, h => by simp [D.nb] at h
  | .fn _, h => by simp [D.nb] at h
  | .rng _, h => by simp [D.nb] at h
  | .ref _, h => by simp [D.nb] at h
theorem D.nbs_flat : ∀ ds : List D, D.nbs ds = true → D.flats ds = true
  | [], _ => rfl
  | d :: ds, h => by
    simp only [D.nbs, Bool.and_eq_true] at h
    simp only [D.flats, Bool.and_eq_true]
    exact ⟨D.nb_flat d h.1, D.nbs_flat ds h.2⟩
end
mutual
theorem eqv_nb : ∀ (d e : D), d.nb = true → e.nb = true → (PyData.eqv d.py e.py = true ↔ d = e)
  | .bl _, _, h, _ => by simp [D.nb] at h
  | .dic _ _, _, h, _ => by simp [D.nb] at h
  | .dct _ _, _, h, _ => by simp [D.nb] at h
  | .ins _ _ _, _, h, _ => by simp [D.nb] at h
  | .fn _, _, h, _ => by simp [D.nb] at h
  | .rng _, _, h, _ => by simp [D.nb] at h
  | .ref _, _, h, _ => by simp [D.nb] at h
  | .non, e, _, h => by cases e <;> simp_all [D.nb, D.py, PyData.eqv]
  | .int i, e, _, h => by cases e <;> simp_all [D.nb, D.py, PyData.eqv]
  | .str i, e, _, h => by cases e <;> simp_all [D.nb, D.py, PyData.eqv]
  | .tup ds, e, h', h => by
    cases e with
    | tup es =>
      simp only [D.nb] at h h'
      simp only [D.py, PyData.eqv, D.tup.injEq]
      exact eqvs_nb ds es h' h
    | _ => simp_all [D.nb, D.py, PyData.eqv]
  | .lst ds, e, h', h => by
    cases e with
    | lst es =>
      simp only [D.nb] at h h'
      simp only [D.py, PyData.eqv, D.lst.injEq]
      exact eqvs_nb ds es h' h
    | _ => simp_all [D.nb, D.py, PyData.eqv]
theorem eqvs_nb : ∀ (ds es : List D), D.nbs ds = true → D.nbs es = true → (PyData.eqvAll (D.pys ds) (D.pys es) = true ↔ ds = es)
  | [], [], _, _ => by simp [D.pys, PyData.eqvAll]
  | [], _ :: _, _, _ => by simp [D.pys, PyData.eqvAll]
  | _ :: _, [], _, _ => by simp [D.pys, PyData.eqvAll]
  | d :: ds, e :: es, h, h' => by
    simp only [D.nbs, Bool.and_eq_true] at h h'
    simp only [D.pys, PyData.eqvAll, Bool.and_eq_true, List.cons.injEq]
    rw [eqv_nb d e h.1 h'.1, eqvs_nb ds es h.2 h'.2]
end
theorem eqv_dec {d e : D} (hd : d.nb = true) (he : e.nb = true) : PyData.eqv d.py e.py = decide (d = e) := by
  rw [Bool.eq_iff_iff, decide_eq_true_eq]
  exact eqv_nb d e hd he
/-- data that can be compared, without truth values -/
def D.eqo (d : D) : Bool := d.nb && SeqAt.shaped d.py
theorem D.eqo_cmp {d : D} (h : d.eqo = true) : d.cmp = true := by
  simp only [D.eqo, Bool.and_eq_true] at h
  simp only [D.cmp, Bool.and_eq_true]
  exact ⟨D.nb_flat d h.1, h.2⟩
theorem D.eqo_nb {d : D} (h : d.eqo = true) : d.nb = true := by
  simp only [D.eqo, Bool.and_eq_true] at h
  exact h.1
theorem eq_eqo {d e : D} {ro w : List D} (hd : d.eqo = true) (he : e.eqo = true) : gEq d e ro w = .ok (.bl (decide (d = e))) w := by
  rw [x_eq, if_pos (by rw [D.eqo_cmp hd, D.eqo_cmp he]; rfl), eqv_dec (D.eqo_nb hd) (D.eqo_nb he)]
theorem ne_eqo {d e : D} {ro w : List D} (hd : d.eqo = true) (he : e.eqo = true) : gNe d e ro w = .ok (.bl (!decide (d = e))) w := by
  rw [x_ne, if_pos (by rw [D.eqo_cmp hd, D.eqo_cmp he]; rfl), eqv_dec (D.eqo_nb hd) (D.eqo_nb he)]
/-! depth, and that texts are texts -/
mutual
def D.lay : D → Bool
  | .str x => PyData.strOk x
  | .tup ds => D.lays ds
  | .lst ds => D.lays ds
  | _ => true
def D.lays : List D → Bool
  | [] => true
  | d :: ds => d.lay && D.lays ds
end
mutual
def D.dp : D → Nat
  | .tup ds => D.dps ds + 1
  | .lst ds => D.dps ds + 1
  | _ => 0
def D.dps : List D → Nat
  | [] => 0
  | d :: ds => max d.dp (D.dps ds)
end
mutual
theorem D.py_lay : ∀ d : D, d.py.canLay0 = d.lay
  | .str _ => rfl
  | .tup ds => by simp only [D.py, PyData.canLay0, D.lay, D.pys_lay ds]
  | .lst ds => by simp only [D.py, PyData.canLay0, D.lay, D.pys_lay ds]
  | .bl _ => rfl
  | .dic _ _ => rfl
  | .dct _ _ => rfl
  | .ins _ _ _ => rfl
  | .fn _ => rfl
  | .rng _ => rfl
  | .ref _ => rfl
  | .non => rfl
  | .int _ => rfl
theorem D.pys_lay : ∀ ds : List D, PyData.canLayAll0 (D.pys ds) = D.lays ds
  | [] => rfl
  | d :: ds => by simp only [D.pys, PyData.canLayAll0, D.lays, D.py_lay d, D.pys_lay ds]
end
mutual
theorem D.py_dp : ∀ d : D, d.py.depth = d.dp
  | .str _ => rfl
  | .tup ds => by simp only [D.py, PyData.depth, D.dp, D.pys_dp ds]
  | .lst ds => by simp only [D.py, PyData.depth, D.dp, D.pys_dp ds]
  | .bl _ => rfl
  | .dic _ _ => rfl
  | .dct _ _ => rfl
  | .ins _ _ _ => rfl
  | .fn _ => rfl
  | .rng _ => rfl
  | .ref _ => rfl
  | .non => rfl
  | .int _ => rfl
theorem D.pys_dp : ∀ ds : List D, PyData.depthAll (D.pys ds) = D.dps ds
  | [] => rfl
  | d :: ds => by simp only [D.pys, PyData.depthAll, D.dps, D.py_dp d, D.pys_dp ds]
end
theorem eqo_of {d : D} (h1 : d.nb = true) (h2 : d.lay = true) (h3 : d.dp ≤ 64) : d.eqo = true := by
  unfold D.eqo SeqAt.shaped
  rw [D.py_lay, D.py_dp, h1, h2]
  simpa using h3
theorem nbs_iff {ds : List D} : D.nbs ds = true ↔ ∀ d ∈ ds, d.nb = true := by
  induction ds with
  | nil => simp [D.nbs]
  | cons d ds ih => simp [D.nbs, ih]
theorem lays_iff {ds : List D} : D.lays ds = true ↔ ∀ d ∈ ds, d.lay = true := by
  induction ds with
  | nil => simp [D.lays]
  | cons d ds ih => simp [D.lays, ih]
theorem dps_iff {ds : List D} {n : Nat} : D.dps ds ≤ n ↔ ∀ d ∈ ds, d.dp ≤ n := by
  induction ds with
  | nil => simp [D.dps]
  | cons d ds ih => simp [D.dps, ih, Nat.max_le]
@[simp] theorem eqo_int {i : Int} : (D.int i).eqo = true := eqo_of rfl rfl (Nat.zero_le _)
@[simp] theorem eqo_non : D.non.eqo = true := eqo_of rfl rfl (Nat.zero_le _)
theorem eqo_str {x : Str} (h : PyData.strOk x = true) : (D.str x).eqo = true := eqo_of rfl h (Nat.zero_le _)
theorem eq_str {x y : Str} {ro w : List D} (hx : PyData.strOk x = true) (hy : PyData.strOk y = true) : gEq (.str x) (.str y) ro w = .ok (.bl (decide (x = y))) w := by
  rw [eq_eqo (eqo_str hx) (eqo_str hy)]
  simp
/-! ### whole numbers -/
theorem nbs_ints {ns : List Int} : D.nbs (ns.map .int) = true := nbs_iff.mpr (by simp [D.nb])
theorem lays_ints {ns : List Int} : D.lays (ns.map .int) = true := lays_iff.mpr (by simp [D.lay])
theorem dps_ints {ns : List Int} : D.dps (ns.map .int) ≤ 0 := dps_iff.mpr (by simp [D.dp])
theorem eqo_ints {ns : List Int} : (D.lst (ns.map .int)).eqo = true := eqo_of (by simpa [D.nb] using nbs_ints) (by simpa [D.lay] using lays_ints) (by simp only [D.dp]; have := @dps_ints ns; omega)
theorem atI_nat {α : Type} {xs : List α} {i : Nat} : L2.atI xs (i : Int) = xs[i]? := by
  unfold L2.atI L2.ixN
  rw [if_pos (Int.natCast_nonneg i)]
  by_cases h : (i : Int) < xs.length
  · rw [if_pos h]
    simp
  · rw [if_neg h]
    simp only [Option.bind_none]
    rw [List.getElem?_eq_none (by omega)]
theorem rngD_nat {n : Nat} : rngD 0 n = (List.range n).map fun (i : Nat) => .int i := by
  unfold rngD
  simp

/-! ### formulas -/
inductive Fm where
  | fal
  | var (x : Str)
  | imp (a b : Fm)
  | and (a b : Fm)
  | or (a b : Fm)
  | box (a : Fm)
  deriving DecidableEq
def Fm.toD : Fm → D
  | .fal => .tup [.str "falsum"]
  | .var x => .tup [.str "var", .str x]
  | .imp a b => .tup [.str "implies", a.toD, b.toD]
  | .and a b => .tup [.str "and", a.toD, b.toD]
  | .or a b => .tup [.str "or", a.toD, b.toD]
  | .box a => .tup [.str "box", a.toD]
def Fm.ht : Fm → Nat
  | .fal => 1
  | .var _ => 1
  | .imp a b => max a.ht b.ht + 1
  | .and a b => max a.ht b.ht + 1
  | .or a b => max a.ht b.ht + 1
  | .box a => a.ht + 1
def Fm.Over (P : Str → Prop) : Fm → Prop
  | .fal => True
  | .var x => P x
  | .imp a b => a.Over P ∧ b.Over P
  | .and a b => a.Over P ∧ b.Over P
  | .or a b => a.Over P ∧ b.Over P
  | .box a => a.Over P
def Fm.plain : Fm → Bool
  | .fal => true
  | .var _ => true
  | .imp a b => a.plain && b.plain
  | .and a b => a.plain && b.plain
  | .or a b => a.plain && b.plain
  | .box a => false
theorem Fm.Over.mono {P Q : Str → Prop} (h : ∀ x, P x → Q x) : ∀ (φ : Fm), φ.Over P → φ.Over Q
  | .fal, _ => trivial
  | .var _, g => h _ g
  | .imp a b, g => ⟨Fm.Over.mono h a g.1, Fm.Over.mono h b g.2⟩
  | .and a b, g => ⟨Fm.Over.mono h a g.1, Fm.Over.mono h b g.2⟩
  | .or a b, g => ⟨Fm.Over.mono h a g.1, Fm.Over.mono h b g.2⟩
  | .box a, g => Fm.Over.mono h a g
theorem Fm.ht_pos : ∀ φ : Fm, 0 < φ.ht
  | .fal => by decide
  | .var _ => by simp [Fm.ht]
  | .imp _ _ => Nat.succ_pos _
  | .and _ _ => Nat.succ_pos _
  | .or _ _ => Nat.succ_pos _
  | .box _ => Nat.succ_pos _
theorem Fm.dp : ∀ φ : Fm, φ.toD.dp = φ.ht
  | .fal => rfl
  | .var _ => rfl
  | .imp a b => by simp [Fm.toD, D.dp, D.dps, Fm.ht, a.dp, b.dp]
  | .and a b => by simp [Fm.toD, D.dp, D.dps, Fm.ht, a.dp, b.dp]
  | .or a b => by simp [Fm.toD, D.dp, D.dps, Fm.ht, a.dp, b.dp]
  | .box a => by simp [Fm.toD, D.dp, D.dps, Fm.ht, a.dp]
theorem Fm.nb : ∀ φ : Fm, φ.toD.nb = true
  | .fal => rfl
  | .var _ => rfl
  | .imp a b => by simp [Fm.toD, D.nb, D.nbs, a.nb, b.nb]
  | .and a b => by simp [Fm.toD, D.nb, D.nbs, a.nb, b.nb]
  | .or a b => by simp [Fm.toD, D.nb, D.nbs, a.nb, b.nb]
  | .box a => by simp [Fm.toD, D.nb, D.nbs, a.nb]
theorem Fm.lay : ∀ φ : Fm, φ.Over (fun x => PyData.strOk x = true) → φ.toD.lay = true
  | .fal, _ => by simp [Fm.toD, D.lay, D.lays]
  | .var _, h => by
    have h' := h
    simp only [Fm.Over] at h'
    simp [Fm.toD, D.lay, D.lays, h']
  | .imp a b, h => by simp [Fm.toD, D.lay, D.lays, a.lay h.1, b.lay h.2]
  | .and a b, h => by simp [Fm.toD, D.lay, D.lays, a.lay h.1, b.lay h.2]
  | .or a b, h => by simp [Fm.toD, D.lay, D.lays, a.lay h.1, b.lay h.2]
  | .box a, h => by simp [Fm.toD, D.lay, D.lays, Fm.lay a h]
theorem Fm.eqo {φ : Fm} (h : φ.Over (fun x => PyData.strOk x = true)) (n : φ.ht ≤ 64) : φ.toD.eqo = true := eqo_of φ.nb (φ.lay h) (by rw [φ.dp]; exact n)
@[simp] theorem Fm.toD_inj : ∀ {φ ψ : Fm}, (φ.toD = ψ.toD) ↔ φ = ψ
  | .fal, ψ => by cases ψ <;> simp [Fm.toD, ofString_inj]
  | .var _, ψ => by cases ψ <;> simp [Fm.toD, ofString_inj]
  | .imp a b, ψ => by cases ψ <;> simp [Fm.toD, ofString_inj, a.toD_inj, b.toD_inj]
  | .and a b, ψ => by cases ψ <;> simp [Fm.toD, ofString_inj, a.toD_inj, b.toD_inj]
  | .or a b, ψ => by cases ψ <;> simp [Fm.toD, ofString_inj, a.toD_inj, b.toD_inj]
  | .box a, ψ => by cases ψ <;> simp [Fm.toD, ofString_inj, a.toD_inj]
end Fx
/-! What the laws draw with, and what they compare with. -/
namespace Fx
open PySem PySem.Spec L2
namespace Lw
end Lw
namespace Lw
end Lw
@[simp] theorem atI_lit {α : Type} {xs : List α} {n : Nat} : L2.atI xs (no_index (OfNat.ofNat n : Int)) = xs[n]? := atI_nat
theorem ixN_nat {m n : Nat} : L2.ixN m (n : Int) = if n < m then some n else none := by
  unfold L2.ixN
  rw [if_pos (Int.natCast_nonneg n)]
  by_cases h : n < m
  · rw [if_pos h, if_pos (Int.ofNat_lt.mpr h)]
    rfl
  · rw [if_neg h, if_neg (fun q => h (Int.ofNat_lt.mp q))]
@[simp] theorem ixN_lit {m n : Nat} : L2.ixN m (no_index (OfNat.ofNat n : Int)) = if n < m then some n else none := ixN_nat
@[simp] theorem put_0 {k : Nat} {v : D} {ds r : List D} : gPut v (.ref 0) (.int (no_index (OfNat.ofNat k : Int))) [] (.lst ds :: r) = if k < ds.length then .ok .non (.lst (ds.set k v) :: r) else .no := by
  unfold gPut mMod
  by_cases h : k < ds.length <;> simp [h]
@[simp] theorem see_0 {d : D} {r : List D} : see [] (d :: r) (.ref 0) = d := rfl
namespace Lw
end Lw
/-! ### more of what is asked -/
def inV (o : Option Bool) (w : List D) : Out D := match o with
  | some b => .ok (.bl b) w
  | none => .no
@[simp] theorem inV_s {b : Bool} {w : List D} : inV (some b) w = .ok (.bl b) w := rfl
theorem x_inV {d e : D} {ro w : List D} : gIn d e ro w = inV (inD d e) w := by
  unfold gIn inV
  cases inD d e <;> rfl
@[simp] theorem in_tup_int {i : Int} {ds : List D} {ro w : List D} : gIn (.int i) (.tup ds) ro w = inV (if ds.all D.sc = true then some (ds.any fun d => d.eqs (.int i)) else none) w := by
  rw [x_inV]
  simp [inD, D.sc]
@[simp] theorem in_tup_str {i : Str} {ds : List D} {ro w : List D} : gIn (.str i) (.tup ds) ro w = inV (if ds.all D.sc = true then some (ds.any fun d => d.eqs (.str i)) else none) w := by
  rw [x_inV]
  simp [inD, D.sc]
@[simp] theorem sc_int {i : Int} : (D.int i).sc = true := rfl
@[simp] theorem sc_str {i : Str} : (D.str i).sc = true := rfl
@[simp] theorem eqs_int {i j : Int} : (D.int i).eqs (.int j) = decide (i = j) := Bool.beq_eq_decide_eq _ _
@[simp] theorem eqs_str {i j : Str} : (D.str i).eqs (.str j) = decide (i = j) := Bool.beq_eq_decide_eq _ _
theorem pop_at0 {w : List D} {n : Nat} {d : D} {ds : List D} (h : w[n]? = some (.lst (d :: ds))) : gPopAt [.int 0] (.ref n) [] w = .ok d (w.set n (.lst ds)) := by
  unfold gPopAt mMod
  have e : seqIndex? 0 (ds.length + 1) = some 0 := (ixN_seq (ixN_nat (m := ds.length + 1) (n := 0))).1
  simp [h, e]
theorem see_own {w : List D} {n : Nat} {d : D} (h : w[n]? = some d) : see [] w (.ref n) = d := by
  rw [see_ref]
  simp [h]

def pqr (x : Str) : Prop := x = "p" ∨ x = "q" ∨ x = "r"
def FormulaSpec (d : Nat) (f : List D → M D) : Prop := ∀ (w : List D) (n : Nat) (ms : List Int) (pl : Bool), w[n]? = some (.lst (ms.map .int)) →
  ∃ (φ : Fm) (ms' : List Int), f [.ref n, .int d, .bl pl] [] w = .ok φ.toD (w.set n (.lst (ms'.map .int))) ∧ φ.ht ≤ d + 1 ∧ φ.Over pqr ∧ (pl = true → φ.plain = true)
theorem rng1_nat {n : Nat} {ro w : List D} (h : n ≤ 4611686018427387903) : gRng1 [.int (n : Int)] ro w = .ok (rngD 0 n) w := by
  rw [rng1_int, if_pos (by omega)]
  rfl
namespace Lw
end Lw
end Fx
namespace Fx
open PySem PySem.Spec L2
namespace Lw
theorem seq_assoc {a b t : SF} {env : Env} {ro w : List D} : sSeq a (sSeq b t) env ro w = (sSeq a b env ro w).an fun env' w' => t env' ro w' := by
  rw [x_seq, x_seq]
  cases a env ro w with
  | go fl env w =>
    cases fl with
    | nx => simp only [oan_nx, x_seq]
    | _ => rfl
  | _ => rfl
theorem list5 {α : Type} {a b c d e : α} {j : Int} {P : α → Prop} (ha : P a) (hb : P b) (hc : P c) (hd : P d) (he : P e) (h : 0 ≤ j ∧ j < 5) : ∃ x, L2.atI [a, b, c, d, e] j = some x ∧ P x := by
  obtain ⟨h0, h1⟩ := h
  obtain ⟨n, rfl⟩ := Int.eq_ofNat_of_zero_le h0
  rw [atI_nat]
  match n, h1 with
  | 0, _ => exact ⟨a, rfl, ha⟩
  | 1, _ => exact ⟨b, rfl, hb⟩
  | 2, _ => exact ⟨c, rfl, hc⟩
  | 3, _ => exact ⟨d, rfl, hd⟩
  | 4, _ => exact ⟨e, rfl, he⟩
  | n + 5, h => omega
end Lw
end Fx
namespace Fx
open PySem PySem.Spec L2
/-! ### _law_same on the same data -/
@[simp] theorem atI_nat' {α : Type} {xs : List α} {i : Nat} : L2.atI xs (i : Int) = xs[i]? := atI_nat
namespace Lw
end Lw
end Fx
/-! sum, max, min of whole numbers; default= -/
namespace Fx
open PySem PySem.Spec L2
def intsOf : List D → Option (List Int)
  | [] => some []
  | .int i :: r => (intsOf r).map (i :: ·)
  | _ => none
theorem intsOf_eq : ∀ {ds : List D} {ns : List Int}, intsOf ds = some ns → ds = ns.map .int
  | [], ns, h => by
    cases h
    rfl
  | d :: ds, ns, h => by
    cases d with
    | int i =>
      unfold intsOf at h
      cases e : intsOf ds with
      | none => rw [e] at h; cases h
      | some l =>
        rw [e] at h
        cases h
        rw [intsOf_eq e]
        rfl
    | _ => cases h
@[simp] theorem intsOf_map {ns : List Int} : intsOf (ns.map .int) = some ns := by
  induction ns with
  | nil => rfl
  | cons n ns ih => simp [intsOf, ih]
section
variable {C : Cfg} {ρ : Zn} {H : Hp}
theorem Reps.ints : ∀ {ns : List Int} {vs : List V}, Reps C ρ H (ns.map .int) vs → vs = ns.map V.int
  | [], vs, h => h
  | n :: ns, vs, ⟨v, r, e, h1, h2⟩ => by
    rw [e, show v = V.int n from h1, Reps.ints h2]
    rfl
def gSum : D → M D
  | .lst ds => match intsOf ds with
    | some ns => M.pure (.int ns.sum)
    | none => M.no
  | _ => M.no
def maxI : List Int → Int
  | [] => 0
  | n :: ns => ns.foldl max n
def gMax : D → M D
  | .lst ds => match intsOf ds with
    | some ns => if 0 < ns.length then M.pure (.int (maxI ns)) else M.no
    | none => M.no
  | _ => M.no
end

def rMaxD (K : PySem.W.Frag) : List V → List V → Hp → VK → Prop := fun xs zs H Q => ∃ (a : Addr) (ns : List Int) (d : V), xs = [V.ref a] ∧ zs = [d] ∧ SqL K H a (ns.map V.int) ∧ Q (if ns = [] then d else .int (maxI ns)) H
theorem reads_ints {h : Heap} : ∀ {ns : List Int} {us : List Value}, Vals (ns.map V.int) us → ReadsAll h us (ns.map .int) []
  | [], us, r => by
    cases r
    exact .nil
  | n :: ns, _, .cons h r => by
    obtain ⟨t, rfl⟩ := h
    exact .cons (as := []) (bs := []) (.int _ _) (reads_ints r)
theorem depth_ints : ∀ {ns : List Int}, PyData.depthAll (ns.map .int) = 0
  | [] => rfl
  | n :: ns => by
    have := @depth_ints ns
    simp [PyData.depthAll, PyData.depth, this]
theorem cf_maxD {X : Cx} (hc : X.calm = true) (hu : X.A.units + 65 < cLine) : CallRK X (.builtin "max") [Str.ofString "default"] (rMaxD X.K) := by
  intro pins s σ H xs zs us ws Q I r rz h
  obtain ⟨a, ns, d, rfl, rfl, hs, q⟩ := h
  obtain rfl := Vals.ref1 r
  obtain ⟨w1, rfl, e1⟩ := vals1 rz
  obtain ⟨its, rv, hl, _⟩ := I.list hs
  refine PySem.W.max_list_default (I.ok.hd hc) hl.isList (reads_ints rv) ⟨?_, ?_⟩ ?_ ?_ ?_
  · intro x hx y hy
    obtain ⟨i, _, rfl⟩ := List.mem_map.mp hx
    obtain ⟨j, _, rfl⟩ := List.mem_map.mp hy
    rfl
  · intro x hx
    obtain ⟨i, _, rfl⟩ := List.mem_map.mp hx
    intro e
    cases e
  · rw [depth_ints]
    omega
  · intro e h' tk hk
    rw [List.map_eq_nil_iff] at e
    rw [if_pos e] at q
    exact ⟨d, H, I.kept hk, e1, q⟩
  · intro y ys i v h' tk bs e hv hr hk
    cases ns with
    | nil => cases e
    | cons n ns =>
      cases e
      rw [if_neg (by simp)] at q
      rw [PySem.W.maxD_ints] at hr
      cases hr
      exact ⟨.int _, H, I.kept hk, ⟨_, rfl⟩, q⟩
def gMaxD (d z : D) : M D := match d with
  | .lst ds => match intsOf ds with
    | some ns => if ns = [] then M.pure z else M.pure (.int (maxI ns))
    | none => M.no
  | _ => M.no
def cMaxD (fa fb : EF) : EF := fun env => M.bind (fa env) fun d => M.bind (fb env) fun z => M.bind (M.see d) fun d => gMaxD d z
section
variable {X : Cx} {W : WX} {fa fb : EF} {e e2 : Expr} {p pos kpos : Pos}
theorem pf_maxD (hc : X.calm = true) (hu : X.A.units + 65 < cLine) (hg : Gl X "max") (hm : X.mg "max" = none) (ha : PE X e (tE (cfg X) W fa)) (hb : PE X e2 (tE (cfg X) W fb))
    (hs1 : starEach [e] X.env = (false, eval e X.env) :: starEach [] X.env := by rfl) (he : backTo pos (starEach [e] X.env) = (false, eval e X.env) :: backTo pos (starEach [] X.env) := by rfl) (hpl : (backTo pos (starEach [e] X.env)).any (·.1) = false := by rfl)
    (hall : (backToKw pos (keywordEach [⟨some "default", e2, kpos⟩] X.env)).all (·.1.isSome) = true := by rfl) (hnone : (backToKw pos (keywordEach [⟨some "default", e2, kpos⟩] X.env)).any (·.1.isNone) = false := by rfl) (hks : (backToKw pos (keywordEach [⟨some "default", e2, kpos⟩] X.env)).filterMap (·.1) = [Str.ofString "default"] := by rfl) :
    PE X (.Call (.Name "max" p) [e] [⟨some "default", e2, kpos⟩] pos) (tE (cfg X) W (cMaxD fa fb)) := by
  refine pe_imp (pe_callBK (cf_maxD hc hu) hg hm (by decide +kernel) (pa_cons ha pa_nil hs1) (pk_cons hb pk_nil) (by decide) (by decide) he hpl hall hnone hks) fun σ H Q ⟨ρ, env, ro, w, hS, hE, q⟩ => ?_
  refine tR_seq hS hE q fun d w1 v ρ1 H1 x1 s1 r1 q1 => ?_
  refine tR_seq s1 (hE.ext x1) q1 fun z w2 v2 ρ2 H2 x2 s2 r2 q2 => ?_
  have r1' := seen_of s2 (Rep.ext x2 d r1)
  have q3 : AfterR (cfg X) (Rep (cfg X)) W σ ρ2 H2 ro (gMaxD (see ro w2 d) z ro w2) Q := q2
  generalize see ro w2 d = d' at r1' q3
  cases d' with
  | lst ds =>
    obtain ⟨a, vs, rfl, h, r⟩ := r1'.lst
    unfold gMaxD at q3
    cases e : intsOf ds with
    | none => simp only [e] at q3; exact (show False from q3).elim
    | some ns =>
      simp only [e] at q3
      rw [intsOf_eq e] at r
      rw [Reps.ints r] at h
      refine ⟨a, ns, v2, rfl, rfl, h, ?_⟩
      by_cases c : ns = []
      · rw [if_pos c] at q3 ⊢
        exact ok_same s2 r2 q3
      · rw [if_neg c] at q3 ⊢
        exact ok_int s2 q3
  | _ => exact (show False from q3).elim
end
section
variable {fa fb : EF} {env : Fx.Env} {ro w : List D} {ns : List Int}
@[simp] theorem x_maxD : cMaxD fa fb env ro w = (fa env ro w).an fun d w1 => (fb env ro w1).an fun z w2 => gMaxD (see ro w2 d) z ro w2 := by
  show M.bind (fa env) _ ro w = _
  simp
@[simp] theorem maxD_ints {z : D} : gMaxD (.lst (ns.map .int)) z ro w = .ok (if ns = [] then z else .int (maxI ns)) w := by
  unfold gMaxD
  simp only [intsOf_map]
  by_cases c : ns = [] <;> simp [c]
@[simp] theorem max_ints (h : 0 < ns.length) : gMax (.lst (ns.map .int)) ro w = .ok (.int (maxI ns)) w := by
  unfold gMax
  simp [h]
@[simp] theorem sum_ints : gSum (.lst (ns.map .int)) ro w = .ok (.int ns.sum) w := by
  unfold gSum
  simp
end
end Fx
/-! Formulas taken apart; lists made of lists. -/
namespace Fx
open PySem PySem.Spec L2
section
variable {α : Type} {k : Nat} {fa : EF} {ta : Fx.Env → M Bool} {env : Fx.Env} {ro w : List D}
theorem comp_all {h g : α → D} : ∀ {l : List α}, (∀ a ∈ l, fa (env.set k (some (h a))) ro w = .ok (g a) w) → compR (.nm k) cYes fa env (l.map h) ro w = .ok (l.map g) w
  | [], _ => rfl
  | a :: l, H => by
    have ih := comp_all (h := h) (g := g) (l := l) fun b hb => H b (by simp [hb])
    simp [H a (by simp), ih]
theorem comp_filt {h g : α → D} {p : α → Bool} : ∀ {l : List α}, (∀ a ∈ l, ta (env.set k (some (h a))) ro w = .ok (p a) w) → (∀ a ∈ l, p a = true → fa (env.set k (some (h a))) ro w = .ok (g a) w) → compR (.nm k) ta fa env (l.map h) ro w = .ok ((l.filter p).map g) w
  | [], _, _ => rfl
  | a :: l, H, G => by
    have ih := comp_filt (h := h) (g := g) (p := p) (l := l) (fun b hb => H b (by simp [hb])) (fun b hb => G b (by simp [hb]))
    by_cases c : p a = true
    · simp [H a (by simp), G a (by simp) c, ih, c]
    · have c' : p a = false := by simpa using c
      simp [H a (by simp), ih, c']
end
theorem cut_tail {α : Type} {a : α} {r : List α} : cut (a :: r) (some 1) none = r := by
  unfold cut HT.sIx
  simp
@[simp] theorem see_fm {φ : Fm} {ro w : List D} : see ro w φ.toD = φ.toD := by cases φ <;> rfl
def Fm.tag : Fm → Str
  | .fal => "falsum"
  | .var _ => "var"
  | .imp _ _ => "implies"
  | .and _ _ => "and"
  | .or _ _ => "or"
  | .box _ => "box"
def Fm.parts : Fm → List Fm
  | .fal => []
  | .var _ => []
  | .imp a b => [a, b]
  | .and a b => [a, b]
  | .or a b => [a, b]
  | .box a => [a]
@[simp] theorem Fm.ix0 {φ : Fm} {ro w : List D} : gIx φ.toD (.int 0) ro w = .ok (.str φ.tag) w := by cases φ <;> simp [Fm.toD, Fm.tag]
@[simp] theorem Fm.tag_ok {φ : Fm} : PyData.strOk φ.tag = true := by cases φ <;> exact ok_lit
theorem Fm.leaf {φ : Fm} : φ.parts = [] ↔ (φ.tag = "var" ∨ φ.tag = "falsum") := by cases φ <;> simp [Fm.parts, Fm.tag, ofString_inj]
theorem Fm.sl1 {φ : Fm} {ro w : List D} (h : φ.parts ≠ []) : gSl φ.toD (some 1) none ro w = .ok (.tup (φ.parts.map Fm.toD)) w := by cases φ <;> simp [Fm.toD, Fm.parts, cut_tail] at h ⊢
@[simp] theorem Fm.tag_box {φ : Fm} : φ.tag = "box" ↔ ∃ a, φ = .box a := by cases φ <;> simp [Fm.tag, ofString_inj]
@[simp] theorem Fm.tag_var {φ : Fm} : φ.tag = "var" ↔ ∃ a, φ = .var a := by cases φ <;> simp [Fm.tag, ofString_inj]
theorem Fm.part_ht {φ ψ : Fm} (h : ψ ∈ φ.parts) : ψ.ht < φ.ht := by
  cases φ <;> simp [Fm.parts] at h <;> (try rcases h with rfl | rfl) <;> (try subst h) <;> simp only [Fm.ht] <;> omega
def Fm.sz : Fm → Nat
  | .fal => 1
  | .var _ => 1
  | .imp a b => a.sz + b.sz + 1
  | .and a b => a.sz + b.sz + 1
  | .or a b => a.sz + b.sz + 1
  | .box a => a.sz + 1
theorem Fm.sz_lt : ∀ φ : Fm, φ.sz < 2 ^ φ.ht
  | .fal => by decide
  | .var _ => by simp [Fm.sz, Fm.ht]
  | .imp a b => by
    have h1 := a.sz_lt
    have h2 := b.sz_lt
    have h3 : 2 ^ a.ht ≤ 2 ^ max a.ht b.ht := Nat.pow_le_pow_right (by decide) (by omega)
    have h4 : 2 ^ b.ht ≤ 2 ^ max a.ht b.ht := Nat.pow_le_pow_right (by decide) (by omega)
    simp only [Fm.sz, Fm.ht, Nat.pow_succ]
    omega
  | .and a b => by
    have h1 := a.sz_lt
    have h2 := b.sz_lt
    have h3 : 2 ^ a.ht ≤ 2 ^ max a.ht b.ht := Nat.pow_le_pow_right (by decide) (by omega)
    have h4 : 2 ^ b.ht ≤ 2 ^ max a.ht b.ht := Nat.pow_le_pow_right (by decide) (by omega)
    simp only [Fm.sz, Fm.ht, Nat.pow_succ]
    omega
  | .or a b => by
    have h1 := a.sz_lt
    have h2 := b.sz_lt
    have h3 : 2 ^ a.ht ≤ 2 ^ max a.ht b.ht := Nat.pow_le_pow_right (by decide) (by omega)
    have h4 : 2 ^ b.ht ≤ 2 ^ max a.ht b.ht := Nat.pow_le_pow_right (by decide) (by omega)
    simp only [Fm.sz, Fm.ht, Nat.pow_succ]
    omega
  | .box a => by
    have h1 := a.sz_lt
    simp only [Fm.sz, Fm.ht, Nat.pow_succ]
    omega
/-- all formulas in it, with repetitions -/
def Fm.all : Fm → List Fm
  | .fal => [.fal]
  | .var x => [.var x]
  | .imp a b => .imp a b :: (a.all ++ b.all)
  | .and a b => .and a b :: (a.all ++ b.all)
  | .or a b => .or a b :: (a.all ++ b.all)
  | .box a => .box a :: a.all
theorem Fm.all_len : ∀ φ : Fm, φ.all.length = φ.sz
  | .fal => rfl
  | .var _ => rfl
  | .imp a b => by simp [Fm.all, Fm.sz, a.all_len, b.all_len]
  | .and a b => by simp [Fm.all, Fm.sz, a.all_len, b.all_len]
  | .or a b => by simp [Fm.all, Fm.sz, a.all_len, b.all_len]
  | .box a => by simp [Fm.all, Fm.sz, a.all_len]
theorem Fm.all_parts (φ : Fm) : φ.all = φ :: φ.parts.flatMap Fm.all := by cases φ <;> simp [Fm.all, Fm.parts]
theorem pqr_ok (x : Str) (h : pqr x) : PyData.strOk x = true := by
  rcases h with rfl | rfl | rfl <;> exact ok_lit
end Fx
/-! Defs as values. -/
namespace Fx
open PySem PySem.Spec L2
section
variable {X : Cx} {W : WX} {n np i : Nat} {x : Str} {g : List D → M D} {p pos : Pos} {e : Expr} {es : List Expr} {fs : Fx.Env → M (List D)}
/-- the defs that a name may hold -/
abbrev Tab := List (Str × Nat × (List D → M D))
def Tab.get (T : Tab) (x : Str) : Option (List D → M D) := match T.find? (fun q => q.1 == x) with
  | some (_, np, g) => some fun ds => if ds.length = np then g ds else M.no
  | none => none
def TabOk (X : Cx) (n : Nat) (T : Tab) : Prop := ∀ q ∈ T, CallX X n q.1 q.2.2 q.2.1
theorem tab_nil : TabOk X n [] := fun q h => by cases h
theorem tab_cons {T : Tab} (h : CallX X n x g np) (t : TabOk X n T) : TabOk X n ((x, np, g) :: T) := fun q hq => by
  rcases List.mem_cons.mp hq with rfl | hq
  · exact h
  · exact t q hq
end
@[simp] theorem see_fn {x : Str} {ro w : List D} : see ro w (.fn x) = .fn x := rfl
end Fx
/-! What the program's and the laws' functions of formulas do. -/
namespace Fx
open PySem PySem.Spec L2
def F_parts : SF :=
  sRet (cIf (cTest (cBin gIn (cBin gIx (cVar 0) (cK (.int 0))) (cTup (cArgs [cK (.str "var"), cK (.str "falsum")])))) (cTup (cArgs [])) (cSl (cVar 0) (cPart (cK (.int 1))) (cNoPart)))

def F_modal_depth (c_modal_depth : List D → M D) (c_parts : List D → M D) : SF :=
  sRet (cBin gAdd (cCall (one gInt) (cArgs [cBin gEq (cBin gIx (cVar 0) (cK (.int 0))) (cK (.str "box"))])) (cMaxD (cComp (.nm 1) [1] (cSeq (cCall (fun ds => if ds.length = 1 then c_parts ds else M.no) (cArgs [cVar 0]))) (cYes) (cCall (fun ds => if ds.length = 1 then c_modal_depth ds else M.no) (cArgs [cVar 1])) kStill) (cK (.int 0))))

def F_is_plain (c_modal_depth : List D → M D) : SF :=
  sRet (cBin gEq (cCall (fun ds => if ds.length = 1 then c_modal_depth ds else M.no) (cArgs [cVar 0])) (cK (.int 0)))

def F_law_all (c_law_all : List D → M D) (c_law_parts : List D → M D) : SF :=
  sSeq (sSet 1 (cLst (cArgs [cVar 0])))
  (sSeq (sFor (.nm 2) (cSeq (cCall (fun ds => if ds.length = 1 then c_law_parts ds else M.no) (cArgs [cVar 0]))) (sSet 1 (cBin gAdd (cVar 1) (cCall (fun ds => if ds.length = 1 then c_law_all ds else M.no) (cArgs [cVar 2])))))
  (sRet (cVar 1)))

namespace Fo
theorem leaf_t {φ : Fm} (h : φ.parts = []) : (Str.ofString "var" = φ.tag ∨ Str.ofString "falsum" = φ.tag) = True := eq_true (by
  rcases Fm.leaf.mp h with h | h
  · exact .inl h.symm
  · exact .inr h.symm)
theorem leaf_f {φ : Fm} (h : ¬ φ.parts = []) : (Str.ofString "var" = φ.tag ∨ Str.ofString "falsum" = φ.tag) = False := eq_false (by
  intro q
  apply h
  apply Fm.leaf.mpr
  rcases q with q | q
  · exact .inl q.symm
  · exact .inr q.symm)
theorem small_parts {φ : Fm} : φ.parts.length ≤ sizeLine := by
  have : sizeLine = 16777216 := rfl
  cases φ <;> simp [Fm.parts, this]
theorem map_int {l : List Fm} {f : Fm → Int} : l.map (fun ψ => D.int (f ψ)) = (l.map f).map .int := by simp
def top (l : List Int) : Int := if l = [] then 0 else maxI l
def md : Fm → Nat
  | .fal => 0
  | .var _ => 0
  | .imp a b => max (md a) (md b)
  | .and a b => max (md a) (md b)
  | .or a b => max (md a) (md b)
  | .box a => md a + 1
def isBox : Fm → Bool
  | .box _ => true
  | _ => false
theorem md_eq (φ : Fm) : (md φ : Int) = (if isBox φ = true then 1 else 0) + top (φ.parts.map fun ψ => (md ψ : Int)) := by
  cases φ <;> simp [Fm.parts, md, top, maxI, isBox] <;> omega
theorem maxD_0 {l : List Int} {ro w : List D} : gMaxD (.lst (l.map .int)) (.int 0) ro w = .ok (.int (top l)) w := by
  rw [maxD_ints]
  unfold top
  by_cases h : l = [] <;> simp [h]
theorem box_if (φ : Fm) : (if φ.tag = "box" then (1 : Int) else 0) = if isBox φ = true then 1 else 0 := by
  cases φ <;> simp [Fm.tag, isBox, ofString_inj]

end Fo
open Fo
def F1 (g : Fm → D) (k : Nat) (f : List D → M D) : Prop := ∀ (φ : Fm) (ro w : List D), φ.ht ≤ k → f [φ.toD] ro w = .ok (g φ) w
abbrev gP (φ : Fm) : D := .tup (φ.parts.map Fm.toD)
abbrev gL (φ : Fm) : D := .lst (φ.parts.map Fm.toD)
abbrev gMd (φ : Fm) : D := .int (md φ)
abbrev gPl (φ : Fm) : D := .bl (decide (md φ = 0))
abbrev gAl (φ : Fm) : D := .lst (φ.all.map Fm.toD)
namespace Pw
theorem parts_ok {k : Nat} : F1 gP k (runDef 1 1 F_parts) := by
  intro φ ro w _
  by_cases h : φ.parts = []
  · simp [x_def, F_parts, leaf_t h, h]
  · simp [x_def, F_parts, leaf_f h, Fm.sl1 h]
theorem step {g : Fm → D} {f : Fm → Int} {c : List D → M D} {k : Nat} {φ : Fm} {ro w : List D} {env : Fx.Env} {i : Nat} (hf : ∀ ψ, g ψ = .int (f ψ)) (hi : i < env.length) (hk : φ.ht ≤ k + 1) (hc : F1 g k c) : compR (.nm i) cYes (cCall (fun ds => if ds.length = 1 then c ds else M.no) (cArgs [cVar i])) env (φ.parts.map Fm.toD) ro w = .ok ((φ.parts.map f).map .int) w := by
  rw [← map_int]
  refine comp_all fun ψ hψ => ?_
  have h := Fm.part_ht hψ
  have := hc ψ ro w (by omega)
  simp [hi, this, hf]
theorem depth_ok {k : Nat} {c p : List D → M D} (hp : F1 gP k p) (hc : ∀ k', k = k' + 1 → F1 gMd k' c) : F1 gMd k (runDef 1 2 (F_modal_depth c p)) := by
  intro φ ro w hk
  obtain ⟨m, rfl⟩ : ∃ m, k = m + 1 := ⟨k - 1, by have := φ.ht_pos; omega⟩
  have s := step (φ := φ) (ro := ro) (w := w) (env := [some φ.toD, none]) (i := 1) (f := fun ψ => (md ψ : Int)) (fun _ => rfl) (Nat.lt_succ_self 1) hk (hc m rfl)
  have h1 := hp φ ro w hk
  simp [x_def, F_modal_depth, x_comp, h1, small_parts, wipeE, s, maxD_0, gMd, md_eq φ, eq_str, box_if, -Fm.tag_box, -List.map_map, -maxD_ints]
theorem plain_ok {k : Nat} {c : List D → M D} (hc : F1 gMd k c) : F1 gPl k (runDef 1 1 (F_is_plain c)) := by
  intro φ ro w hk
  have e : ((md φ : Int) = 0) = (md φ = 0) := propext (by omega)
  have := hc φ ro w hk
  simp [x_def, F_is_plain, this, e]
theorem all_loop {n : Nat} {c : List D → M D} {o : Option D} {ro w : List D} : ∀ (l : List Fm) (acc : List Fm) (o' : Option D), (∀ ψ ∈ l, c [ψ.toD] ro w = .ok (gAl ψ) w) → acc.length + (l.flatMap Fm.all).length ≤ sizeLine → ∃ o'',
    forL (.nm 2) (sSet 1 (cBin gAdd (cVar 1) (cCall (fun ds => if ds.length = 1 then c ds else M.no) (cArgs [cVar 2])))) (l.map Fm.toD) [o, some (.lst (acc.map Fm.toD)), o'] ro w = .go .nx [o, some (.lst ((acc ++ l.flatMap Fm.all).map Fm.toD)), o''] w
  | [], acc, o', _, _ => ⟨o', by simp⟩
  | φ :: l, acc, o', h, hl => by
    simp only [List.flatMap_cons, List.length_append] at hl
    obtain ⟨o'', k⟩ := all_loop (n := n) l (acc ++ φ.all) (some φ.toD) (fun ψ hψ => h ψ (by simp [hψ])) (by rw [List.length_append]; omega)
    refine ⟨o'', ?_⟩
    have h1 := h φ (by simp)
    have h2 : acc.length + φ.all.length ≤ sizeLine := by omega
    have e : (acc ++ (φ :: l).flatMap Fm.all) = (acc ++ φ.all) ++ l.flatMap Fm.all := by simp
    rw [e, ← k]
    simp [h1, h2]
theorem two_pow {k : Nat} (h : k ≤ 24) : 2 ^ k ≤ sizeLine := Nat.pow_le_pow_right (by decide) h
/-- for formulas of a height of at most 24 -/
theorem all_ok {k : Nat} (h24 : k ≤ 24) {c p : List D → M D} (hp : F1 gL k p) (hc : ∀ k', k = k' + 1 → F1 gAl k' c) : F1 gAl k (runDef 1 3 (F_law_all c p)) := by
  intro φ ro w hk
  obtain ⟨m, rfl⟩ : ∃ m, k = m + 1 := ⟨k - 1, by have := φ.ht_pos; omega⟩
  have hs : φ.sz ≤ sizeLine := by
    have h1 := φ.sz_lt
    have h2 : 2 ^ φ.ht ≤ 2 ^ (m + 1) := Nat.pow_le_pow_right (by decide) hk
    have h3 := two_pow h24
    omega
  have hq := φ.all_parts
  have hl := φ.all_len
  rw [hq, List.length_cons] at hl
  obtain ⟨o'', k⟩ := all_loop (n := 0) (c := c) (o := some φ.toD) (ro := ro) (w := w) φ.parts [φ] none (fun ψ hψ => hc m rfl ψ ro w (by have := Fm.part_ht hψ; omega)) (by simp only [List.length_cons, List.length_nil]; omega)
  simp only [List.map_cons, List.map_nil] at k
  have h1 := hp φ ro w hk
  simp [x_def, F_law_all, h1, x_for, k, gAl]
  rw [hq]
  simp
end Pw
/-! negation -/
def Fm.not (a : Fm) : Fm := .imp a .fal
end Fx
/-! Dicts with numbers and texts as keys. -/
namespace Fx
open PySem PySem.Spec L2
def dget : List D → List D → D → Option D
  | q :: ks, x :: xs, k => if keyOf q = keyOf k then some x else dget ks xs k
  | _, _, _ => none
def dhas (ks : List D) (k : D) : Bool := ks.any fun q => decide (keyOf q = keyOf k)
def dputX : List D → List D → D → D → List D
  | q :: ks, x :: xs, k, v => (if keyOf q = keyOf k then v else x) :: dputX ks xs k v
  | _, _, _, _ => []
/-- the dict behind d[k] = v -/
def dput (ks xs : List D) (k v : D) : D := if dhas ks k = true then .dic ks (dputX ks xs k v) else .dic (ks ++ [k]) (xs ++ [v])
section
variable {C : Cfg} {ρ : Zn} {H : Hp}
/-- the parts of a dict behind d[k] = v -/
def RepD (C : Cfg) (ρ : Zn) (H : Hp) (d : D) (kvs : List (Key × V)) : Prop := ∃ ks xs, d = .dic ks xs ∧ ks.map keyOf = kvs.map (fun p => some p.1) ∧ Reps C ρ H xs (kvs.map (·.2))
theorem RepD.ext {ρ' : Zn} {H' : Hp} {d : D} {kvs : List (Key × V)} (x : Ext ρ ρ' H H') (h : RepD C ρ H d kvs) : RepD C ρ' H' d kvs := by
  obtain ⟨ks, xs, e, h1, h2⟩ := h
  exact ⟨ks, xs, e, h1, Reps.ext x xs h2⟩
end
section
variable {C : Cfg} {W : WX} {σ : L2.St} {ρ : Zn} {H : Hp} {ro w : List D} {Q : VK}
end
def gDGet (o k : D) : M D := match o with
  | .dic ks xs => match dget ks xs k with
    | some d => if (keyOf k).isSome = true then M.pure d else M.no
    | none => M.no
  | _ => M.no
def gDGetD (o k z : D) : M D := match o with
  | .dic ks xs => if (keyOf k).isSome = true then M.pure ((dget ks xs k).getD z) else M.no
  | _ => M.no
def gDIn (o k : D) : M D := match o with
  | .dic ks _ => if (keyOf k).isSome = true then M.pure (.bl (dhas ks k)) else M.no
  | _ => M.no
def gDNotIn (o k : D) : M D := match o with
  | .dic ks _ => if (keyOf k).isSome = true then M.pure (.bl (!dhas ks k)) else M.no
  | _ => M.no
def isDic : D → Bool
  | .dic _ _ => true
  | _ => false
/-- d[k] = v -/
def gDPut (v o k : D) : M D := match o with
  | .ref n => fun ro w => if n < ro.length then .no else match w[n - ro.length]? with
    | some (.dic ks xs) => if (keyOf k).isSome = true ∧ ks.length < sizeLine then .ok .non (w.set (n - ro.length) (dput ks xs k v)) else .no
    | _ => .no
  | _ => M.no
def cDNew : EF := fun _ => mNew (.dic [] [])
def cDGet (fo fk : EF) : EF := fun env => M.bind (fo env) fun o => M.bind (fk env) fun k => M.bind (M.see o) fun o => gDGet o k
def cDGetD (fo fk fz : EF) : EF := fun env => M.bind (fo env) fun o => M.bind (M.see o) fun o' => if isDic o' = true then M.bind (fk env) fun k => M.bind (fz env) fun z => M.bind (M.see o) fun o => gDGetD o k z else M.no
def cDIn (g : D → D → M D) (fk fo : EF) : EF := fun env => M.bind (fk env) fun k => M.bind (fo env) fun o => M.bind (M.see o) fun o => g o k
def sDPutF (fo fk fv : EF) : SF := sLift fv fun v => sLift fo fun o => sLift fk fun k => sLift (fun _ => gDPut v o k) fun _ env _ w => .go .nx env w
section
variable {X : Cx} {W : WX} {fo fk fz fv : EF} {o i e f value : Expr} {p pos pos' apos : Pos}
def gTIn (b : Bool) (o k : D) : M Bool := match o with
  | .dic ks _ => if (keyOf k).isSome = true then M.pure (if b = true then !dhas ks k else dhas ks k) else M.no
  | _ => M.no
def cTIn (b : Bool) (fk fo : EF) : Fx.Env → M Bool := fun env => M.bind (fk env) fun k => M.bind (fo env) fun o => M.bind (M.see o) fun o => gTIn b o k
end
section
variable {fo fk fz fv : EF} {env : Fx.Env} {ro w : List D}
@[simp] theorem x_dnew : cDNew env ro w = .ok (.ref (ro.length + w.length)) (w ++ [.dic [] []]) := by
  show mNew _ ro w = _
  simp
@[simp] theorem x_dget : cDGet fo fk env ro w = (fo env ro w).an fun o w1 => (fk env ro w1).an fun k w2 => gDGet (see ro w2 o) k ro w2 := by
  show M.bind (fo env) _ ro w = _
  simp
@[simp] theorem x_dgetD : cDGetD fo fk fz env ro w = (fo env ro w).an fun o w1 => if isDic (see ro w1 o) = true then (fk env ro w1).an fun k w2 => (fz env ro w2).an fun z w3 => gDGetD (see ro w3 o) k z ro w3 else .no := by
  show M.bind (fo env) _ ro w = _
  simp only [x_bind, x_see, an_ok]
  congr
  funext o w1
  by_cases c : isDic (see ro w1 o) = true
  · simp only [if_pos c, x_bind, x_see, an_ok]
  · simp only [if_neg c, x_no]
@[simp] theorem x_din {g : D → D → M D} : cDIn g fk fo env ro w = (fk env ro w).an fun k w1 => (fo env ro w1).an fun o w2 => g (see ro w2 o) k ro w2 := by
  show M.bind (fk env) _ ro w = _
  simp
@[simp] theorem x_tin {b : Bool} : cTIn b fk fo env ro w = (fk env ro w).an fun k w1 => (fo env ro w1).an fun o w2 => gTIn b (see ro w2 o) k ro w2 := by
  show M.bind (fk env) _ ro w = _
  simp
@[simp] theorem isDic_dic {ks xs : List D} : isDic (.dic ks xs) = true := rfl
@[simp] theorem keyOf_str {x : Str} : keyOf (.str x) = some (.inr x) := rfl
@[simp] theorem keyOf_int {x : Int} : keyOf (.int x) = some (.inl x) := rfl
@[simp] theorem dgetD_eq {ks xs : List D} {k z : D} (h : (keyOf k).isSome = true) : gDGetD (.dic ks xs) k z ro w = .ok ((dget ks xs k).getD z) w := by
  unfold gDGetD
  simp [h]
@[simp] theorem dget_nil {k : D} : dget [] [] k = none := rfl
@[simp] theorem din_eq {ks xs : List D} {k : D} (h : (keyOf k).isSome = true) : gDIn (.dic ks xs) k ro w = .ok (.bl (dhas ks k)) w := by
  unfold gDIn
  simp [h]
@[simp] theorem dnotIn_eq {ks xs : List D} {k : D} (h : (keyOf k).isSome = true) : gDNotIn (.dic ks xs) k ro w = .ok (.bl (!dhas ks k)) w := by
  unfold gDNotIn
  simp [h]
@[simp] theorem x_dput : sDPutF fo fk fv env ro w = (fv env ro w).st env fun v w1 => (fo env ro w1).st env fun o w2 => (fk env ro w2).st env fun k w3 => (gDPut v o k ro w3).st env fun _ w4 => .go .nx env w4 := by
  refine x_lift.trans (congrArg _ ?_)
  funext v w1
  refine x_lift.trans (congrArg _ ?_)
  funext o w2
  refine x_lift.trans (congrArg _ ?_)
  funext i w3
  exact x_lift
end
end Fx
/-! A list times a number. -/
namespace Fx
open PySem PySem.Spec L2
section
variable {X : Cx}
end
/-- number times number, list times number -/
def gMulF (x y : D) : M D := match x, y with
  | .lst ds, .int k => fun _ w => if k.natAbs < 2 ^ 62 ∧ ds.length * k.toNat ≤ sizeLine then .ok (.lst (List.replicate k.toNat ds).flatten) w else .no
  | x, y => gMul x y
theorem Reps.rep {C : Cfg} {ρ : Zn} {H : Hp} {ds : List D} {vs : List V} (r : Reps C ρ H ds vs) : ∀ n : Nat, Reps C ρ H (List.replicate n ds).flatten (List.replicate n vs).flatten
  | 0 => rfl
  | n + 1 => by
    rw [List.replicate_succ, List.replicate_succ, List.flatten_cons, List.flatten_cons]
    exact Reps.append r (Reps.rep r n)
section
variable {ro w : List D}
@[simp] theorem mulF_int {i j : Int} : gMulF (.int i) (.int j) ro w = gMul (.int i) (.int j) ro w := rfl
@[simp] theorem mulF_lst {ds : List D} {k : Int} : gMulF (.lst ds) (.int k) ro w = if k.natAbs < 2 ^ 62 ∧ ds.length * k.toNat ≤ sizeLine then .ok (.lst (List.replicate k.toNat ds).flatten) w else .no := rfl
end
theorem flats_iff {ds : List D} : D.flats ds = true ↔ ∀ d ∈ ds, d.flat = true := by
  induction ds with
  | nil => simp [D.flats]
  | cons d ds ih => simp [D.flats, ih]
end Fx
/-! Exceptions. -/
namespace Fx
open PySem PySem.Spec L2
/-- an own class over ValueError, without `__init__` -/
structure ExC (K : PySem.W.Frag) (mg : Str → Option Value) (x : Str) : Prop where
  ex : ∃ C, mg x = some (.ref C) ∧ PySem.W.excIn K C [.type "ValueError", .type "Exception", .type "BaseException", .type "object"] "ValueError.__new__" = true ∧ PySem.W.keepIn K (.ref C) = true ∧
    PySem.W.subIn K (.ref C) (.type "BaseException") = some true ∧ PySem.W.typeIn K (.ref C) = some (.type "type")
def sRaise (x : Str) : SF := fun env _ w => .exn x [] [] env w
section
variable {X : Cx} {W : WX} {x m : Str} {j : Nat} {p p2 cpos pos : Pos}
theorem f_raise (E : ExC X.K X.mg x) (hc : X.calm = true) (tk : Takes X W) (hg : Gl X x) (hdb : (x == ("__debug__" : Str)) = false := by decide) :
    PS X (.Raise (some (.Call (.Name x p) [.Constant (.str m) j p2] [] cpos)) none pos) (tS (cfg X) W (sRaise x)) := by
  obtain ⟨C, gC, xC, kC, bC, tC⟩ := E.ex
  refine ps_imp (ps_raise hc tk (pmk_own PySem.F.excBase_ValueError xC gC kC (raises_own bC tC) hg hdb)) fun D σ H ⟨ρ, env, ro, w, hS, hE, q⟩ => ?_
  exact q (.ref C) none σ ρ H .refl hS hE ⟨C, gC, rfl, .inl ⟨rfl, rfl, rfl⟩⟩
@[simp] theorem x_raise {env : Fx.Env} {ro w : List D} : sRaise x env ro w = .exn x [] [] env w := rfl
end
end Fx
set_option maxHeartbeats 2000000
/-! try, except .. as n, else. -/
namespace Fx
open PySem PySem.Spec L2 PyProof.Rows
section
variable {X : Cx} {x n : Str} {c : Value} {i : Nat} {body suite orelse : List Stmt} {b₀ : Stmt} {np pos pos' : Pos} {tb : WX → TS} {ts : Addr → Value → Option Addr → TS} {u : TS} {Wout : WX}
/-- where the exception stands, once it has been looked at -/
theorem not_frame {B h : Heap} {L : List PySem.Env} {o : Obj} {vs : Array Value} {a : Addr} (ff : h.FunFrames B L) (e : h.get? a = some o) (d : o.data = .fields vs) : a ∉ frs L := fun hm => by
  obtain ⟨_, o', e', k⟩ := ff.mem hm
  cases e.symm.trans e'
  exact k _ d
theorem ps_try_asE (ho : PSs X orelse u) (hs : X.stack = X.env :: X.outer) (hf : X.env.frame = some X.env.locals) (hN : X.N.Nodup) (hi : X.N[i]? = some n) (hln : X.env.kindOf n = some .local) (hc : Names X x c) (tk : Takes X Wout)
    (hb : ∀ (W : WX) (pn : List (Addr × Obj)) (xe : Value → Shared → Prop), Takes (X.tr pn xe) W → PassesOwn (model X.prog X.w) X.A X.env xe → PSs (X.tr pn xe) body (tb W))
    (hsu : ∀ (a : Addr) (oe : Obj) (cls : Value) (d : Option Addr) (pn : List (Addr × Obj)), Zc cls d oe → (∃ vs, oe.data = .fields vs) → PSs (X.suite a ((a, oe) :: pn)) (b₀ :: suite) (ts a cls d)) :
    PS X (.Try body [.ExceptHandler (some (.Name x np)) (some n) (b₀ :: suite) pos'] orelse [] pos) (fun D σ H => tb (wAs X.K c i ts Wout D) { D with nx := u D } σ H) := by
  refine ⟨fun pins s σ H D I h => ?_⟩
  let xe' : Value → Shared → Prop := fun e s₁ => wpAny (model X.prog X.w) X.A (noteFrame e X.env) (fun _ s₂ => wpAny (model X.prog X.w) X.A (setFlight e none) (fun _ s₃ =>
    wpAny (model X.prog X.w) X.A (handleBy e X.env [.ExceptHandler (some (.Name x np)) (some n) (b₀ :: suite) pos']) (SP X pins D) X.xe s₃) X.xe s₂) X.xe s₁
  -- what an exception of the body meets
  have tk' : Takes (X.tr (X.pn ++ pins) xe') (wAs X.K c i ts Wout D) := by
    rintro v s' ⟨a, B, sI, pins', σ', H', cls, d, ev, J', nb, up, sky, na, os, ag, b, e1, yes, no⟩
    subst ev
    have J : L2.Inv X pins σ' H' sI := J'.ofTry I.ok
    have sky2 : Sky B (X.env :: X.outer) a (Zc cls d) X.env.locals s'.heap := by
      rw [← hs]
      exact sky
    refine Sky.land Zc.steady (by rw [I.ok.frames, hs]) hf sky2 fun h3 fl up3 => ?_
    obtain ⟨o3, vs3, g3, z3, d3⟩ := fl.there
    have nfr := not_frame fl.2.2.1 g3 d3
    have nL : a ≠ X.env.locals := fun z => nfr (List.mem_filterMap.mpr ⟨X.env, List.mem_cons_self, (by rw [hf, z])⟩)
    have nF : a ∉ X.fs := fun hm => by
      obtain ⟨e, he, q⟩ := List.mem_filterMap.mp hm
      exact nfr (List.mem_filterMap.mpr ⟨e, List.mem_cons_of_mem _ he, q⟩)
    have J3 : L2.Inv X pins σ' H' { s' with heap := h3 } := J.landed nb fl.1 (up.trans up3) os ag
    have I3 := J3.suite g3 d3 na nL nF
    have cls_is : PySem.W.Looks (model X.prog X.w) h3 (typeOf (.ref a)) cls := fun A Q E s k q => wpAny_typeOf_ref (k _ _ g3) (by rw [z3.1]; exact q)
    have named : ∀ {Q : Value → Shared → Prop} {E : Value → Shared → Prop}, Q c { s' with heap := h3 } → wpAny (model X.prog X.w) (X.A.mark (some (.ref a))) (eval (.Name x np) X.env) Q E { s' with heap := h3 } := fun {Q E} q => by
      obtain ⟨hg, hd, hm | ⟨hm, hv, hn⟩⟩ := hc
      · exact ld_glob (X := X.suite a ((a, o3) :: (X.pn ++ pins))) I3 hg hm q hd
      · exact ld_blt (X := X.suite a ((a, o3) :: (X.pn ++ pins))) I3 hg hm hv q hn hd
    refine wpAny_handleBy_cons (codeAny_handlers_test (named ((PySem.W.exm_one (M := model X.prog X.w) J3.kIn cls_is e1).here ?_))) (by intro q; cases q)
    cases b with
    | false =>
      obtain ⟨_, _, _, oe, vs, T, oT, ts', he, hz, hd, h1, hr⟩ := id fl
      refine wpAny_handleBy_nil (wpAny_bind (wpAny_field he hd h1 ?_))
      rw [if_neg (show ¬ ((Value.ref T == Value.none) = true) from by simp)]
      rw [hf]
      refine wpAny_bind ?_
      refine HandSPX.setFlight_upZ (s := { s' with heap := h3 }) (Q := fun _ s4 => wpAny (model X.prog X.w) X.A (throw (.ref a) : Sem Flow) (SP X pins D) X.xe s4) fl fun h4 hh4 up4 => ?_
      refine wpAny_throw (tk _ _ ?_)
      refine ⟨a, B, sI, pins, σ', H', cls, d, rfl, J, nb, (up.trans up3).trans up4, .inr (.inr ?_), na, os, ag, no rfl⟩
      rw [hs]
      exact hh4
    | true =>
      refine codeAny_handlers_suite_as (HandSPX.lands_againZ fl fun h4 fl4 up4 => ?_)
      obtain ⟨o4, vs4, g4, z4, d4⟩ := fl4.there
      have J4 : L2.Inv X pins σ' H' { s' with heap := h4 } := J.landed nb fl4.1 ((up.trans up3).trans up4) os ag
      have I4 := J4.suite g4 d4 na nL nF
      refine store_ok (X := X.suite a ((a, o4) :: (X.pn ++ pins))) (v := .ref a) I4 hN hi (.inl hln) rfl (fun s5 I5 => ?_) (.inr hln)
      have away : ∀ {σ6 : L2.St} {H6 : Hp} {s6 : Shared} {Q : Shared → Prop}, L2.Inv (X.suite a ((a, o4) :: (X.pn ++ pins))) [] σ6 H6 s6 → (∀ s7, L2.Inv X pins (σ6.set i none) H6 s7 → Q s7) →
          wpAny (model X.prog X.w) X.A (do bindName X.env n .none; unbindBehindTheSuite X.env n pos') (fun _ s7 => Q s7) X.xe s6 := fun {σ6 H6 s6 Q} I6 hq => gone_ok (I6.unsuite I.ok) hN hi hln hq
      refine wpAny_mono ((hsu a o4 cls d (X.pn ++ pins) z4 ⟨_, d4⟩).run [] s5 _ H' _ I5 (yes rfl a na)) (fun fw s6 hsp => ?_) fun _ _ z => False.elim z
      cases fw with
      | ret y =>
        obtain ⟨v6, σ6, H6, I6, r6, q6⟩ := hsp
        exact away I6 fun s7 J7 => ⟨_, _, _, J7, r6, q6⟩
      | next =>
        obtain ⟨σ6, H6, I6, q6⟩ := hsp
        exact away I6 fun s7 J7 => ⟨_, _, J7, q6⟩
      | brk =>
        obtain ⟨σ6, H6, I6, q6⟩ := hsp
        exact away I6 fun s7 J7 => ⟨_, _, J7, q6⟩
      | cont =>
        obtain ⟨σ6, H6, I6, q6⟩ := hsp
        exact away I6 fun s7 J7 => ⟨_, _, J7, q6⟩
  refine wpAny_Try_except (wpAny_mono ((hb _ (X.pn ++ pins) xe' tk' PassesOwn.looking).run [] s σ H { D with nx := u D } (I.toTry _) h) (fun f s1 hsp => ?_) fun e s1 he => he)
  cases f with
  | next =>
    obtain ⟨σ', H', J, q⟩ := hsp
    exact ho.run pins s1 σ' H' D (J.ofTry I.ok) q
  | ret v =>
    obtain ⟨y, σ', H', J, r, q⟩ := hsp
    exact ⟨y, σ', H', J.ofTry I.ok, r, q⟩
  | brk =>
    obtain ⟨σ', H', J, q⟩ := hsp
    exact ⟨σ', H', J.ofTry I.ok, q⟩
  | cont =>
    obtain ⟨σ', H', J, q⟩ := hsp
    exact ⟨σ', H', J.ofTry I.ok, q⟩
end
end Fx
/-! Expressions of an except suite: what is known of the name's slot goes along. -/
namespace Fx
open PySem PySem.Spec L2
abbrev tEp (P : L2.St → Prop) (t : TE) : TE := fun σ H Q => P σ ∧ t σ H Q
section
variable {X : Cx} {P : L2.St → Prop} {W : WX} {C : Cfg} {a b e : Expr} {rest : List Expr} {pos : Pos} {ta tb : Fx.Env → M Bool} {fa fb : EF}
theorem pep_of (h : PE X e (tE C W fa)) : PE X e (tEp P (tE C W fa)) := pe_imp h fun _ _ _ q => q.2
abbrev tSp (P : L2.St → Prop) (t : TS) : TS := fun D σ H => P σ ∧ t D σ H
theorem fsp_one {st : Stmt} {f : SF} (h : PS X st (tSp P (tS C W f))) : PSs X [st] (tSp P (tS C W f)) := pss_one h
theorem f_retp (h : PE X e (tEp P (tE C W fa))) : PS X (.Return (some e) pos) (tSp P (tS C W (sRet fa))) := ps_imp (ps_ret h) fun D σ H ⟨p, ρ, env, ro, w, hS, hE, q⟩ =>
  ⟨p, tS_seq hS hE q fun d w1 v ρ1 H1 x1 s1 e1 r1 q1 => q1 v ρ1 H1 .refl s1 r1⟩
theorem pss_ex {α : Type} {sts : List Stmt} {t : α → TS} (h : ∀ x, PSs X sts (t x)) : PSs X sts (fun D σ H => ∃ x, t x D σ H) := ⟨fun pins s σ H D I ⟨x, q⟩ => (h x).run pins s σ H D I q⟩
end
def cKT (b : Bool) : Fx.Env → M Bool := fun _ => M.pure b
@[simp] theorem x_kt {b : Bool} {env : Fx.Env} {ro w : List D} : cKT b env ro w = .ok b w := rfl
/-! ### try, except X as n, else -/
def sTryAE (i : Nat) (sub : Str → Option Bool) (body : SF) (suite : Str → SF) (orelse : SF) : SF := fun env ro w => match body env ro w with
  | .go .nx env1 w1 => orelse env1 ro w1
  | .exn c [] [] env1 w1 => (match sub c with
    | some true => if i < env1.length then (match suite c (env1.set i none) ro w1 with
      | .go fl env2 w2 => .go fl (env2.set i none) w2
      | _ => .no) else .no
    | some false => .exn c [] [] env1 w1
    | none => .no)
  | .exn _ _ _ _ _ => .no
  | o => o
/-- what a suite knows -/
def Pc (X : Cx) (i : Nat) (c : Str) (a : Addr) (cls : Value) (d : Option Addr) : L2.St → Prop := fun σ => σ[i]? = some (some (.ref a)) ∧ (∃ A, X.mg c = some (.ref A) ∧ cls = .ref A) ∧ d = none
theorem RepE.setN {C : Cfg} {ρ : Zn} {H : Hp} {env : Fx.Env} {σ : L2.St} (h : RepE C ρ H env σ) (i : Nat) (o : Option V) : RepE C ρ H (env.set i none) (σ.set i o) := ⟨by rw [List.length_set, List.length_set]; exact h.len, fun j d e => by
  by_cases c : j = i
  · subst c
    by_cases hl : j < env.length
    · rw [List.getElem?_set_self hl] at e
      cases e
    · rw [List.getElem?_eq_none (by rw [List.length_set]; omega)] at e
      cases e
  · rw [List.getElem?_set_ne (Ne.symm c)] at e ⊢
    exact h.at' j d e⟩
section
variable {X : Cx} {W : WX} {x n : Str} {c : Value} {i : Nat} {body suite orelse : List Stmt} {b₀ : Stmt} {np pos pos' : Pos} {fb fe : SF} {fs : Str → SF} {sub : Str → Option Bool}
theorem f_tryAE (i : Nat) (hsub : ∀ c' b, sub c' = some b → ∀ A, X.mg c' = some (.ref A) → PySem.W.exmOne X.K (.ref A) c = some b) (ho : PSs X orelse (tS (cfg X) W fe)) (hs : X.stack = X.env :: X.outer) (hf : X.env.frame = some X.env.locals) (hN : X.N.Nodup) (hi : X.N[i]? = some n) (hln : X.env.kindOf n = some .local) (hc : Names X x c) (tk : Takes X W)
    (hb : ∀ (W : WX) (pn : List (Addr × Obj)) (xe : Value → Shared → Prop), Takes (X.tr pn xe) W → PassesOwn (model X.prog X.w) X.A X.env xe → PSs (X.tr pn xe) body (tS (cfg X) W fb))
    (hsu : ∀ (c' : Str) (a : Addr) (oe : Obj) (cls : Value) (d : Option Addr) (pn : List (Addr × Obj)), Zc cls d oe → (∃ vs, oe.data = .fields vs) → PSs (X.suite a ((a, oe) :: pn)) (b₀ :: suite) (tSp (Pc X i c' a cls d) (tS (cfg X) W0 (fs c')))) :
    PS X (.Try body [.ExceptHandler (some (.Name x np)) (some n) (b₀ :: suite) pos'] orelse [] pos) (tS (cfg X) W (sTryAE i sub fb fs fe)) := by
  refine ps_imp (ps_try_asE (tb := fun W => tS (cfg X) W fb) (ts := fun a cls d D σ H => ∃ c', tSp (Pc X i c' a cls d) (tS (cfg X) W0 (fs c')) D σ H) ho hs hf hN hi hln hc tk hb fun a oe cls d pn hz hd => pss_ex fun c' => hsu c' a oe cls d pn hz hd) fun D σ H ⟨ρ, env, ro, w, hS, hE, q⟩ => ?_
  refine ⟨ρ, env, ro, w, hS, hE, ?_⟩
  have hl : i < X.N.length := (List.getElem?_eq_some_iff.mp hi).1
  unfold sTryAE at q
  cases e : fb env ro w with
  | no => rw [e] at q; exact q
  | go fl env1 w1 =>
    rw [e] at q
    cases fl with
    | nx => exact fun σ1 ρ1 H1 x1 s1 e1 => ⟨ρ1, env1, ro, w1, s1, e1, AfterS.ext x1 q⟩
    | rt d => exact q
    | bk => exact q
    | ct => exact q
  | exn c' ns xs env1 w1 =>
    rw [e] at q
    cases ns with
    | cons _ _ => exact (show False from q).elim
    | nil =>
      cases xs with
      | cons _ _ => exact (show False from q).elim
      | nil =>
        intro cls dx σ1 ρ1 H1 x1 s1 e1 hX
        obtain ⟨A, h1, h2, h3⟩ := hX
        have h4 : dx = none := by
          rcases h3 with ⟨_, _, h⟩ | ⟨_, _, _, h, _⟩
          · exact h
          · exact absurd rfl h
        simp only at q
        cases e2 : sub c' with
        | none => rw [e2] at q; exact (show False from q).elim
        | some b =>
          rw [e2] at q
          have hx := hsub c' b e2 A h1
          rw [← h2] at hx
          refine ⟨b, hx, fun hb' a na => ?_, fun hb' => ?_⟩
          · subst hb'
            simp only at q
            by_cases hl2 : i < env1.length
            · rw [if_pos hl2] at q
              have hiσ : i < σ1.length := by
                rw [← e1.len]
                exact hl2
              refine ⟨c', ⟨by rw [List.getElem?_set_self hiσ], ⟨A, h1, h2⟩, h4⟩, ρ1, env1.set i none, ro, w1, s1, e1.setN i _, ?_⟩
              cases e3 : fs c' (env1.set i none) ro w1 with
              | no => rw [e3] at q; exact (show False from q).elim
              | exn _ _ _ _ _ => rw [e3] at q; exact (show False from q).elim
              | go fl env2 w2 =>
                rw [e3] at q
                have q' := AfterS.ext x1 q
                cases fl with
                | nx => exact fun σ2 ρ2 H2 x2 s2 e2 => q' _ ρ2 H2 x2 s2 (e2.setN i none)
                | bk => exact fun σ2 ρ2 H2 x2 s2 e2 => q' _ ρ2 H2 x2 s2 (e2.setN i none)
                | ct => exact fun σ2 ρ2 H2 x2 s2 e2 => q' _ ρ2 H2 x2 s2 (e2.setN i none)
                | rt d => exact q'
            · rw [if_neg hl2] at q
              exact (show False from q).elim
          · subst hb'
            simp only at q
            exact q cls dx σ1 ρ1 H1 x1 s1 e1 ⟨A, h1, h2, h3⟩
end
/-! ### isinstance(e, C) in the suite -/
section
variable {X : Cx} {i : Nat} {c' cn en : Str} {a : Addr} {oe : Obj} {cls : Value} {d : Option Addr} {pn : List (Addr × Obj)} {W : WX} {C : Cfg} {p q1 q2 pos : Pos} {b : Bool} {C2 : Addr}
end
/-! ### a law's exceptions: cs may be raised, us are named in clauses and tests -/
structure ExT (K : PySem.W.Frag) (mg : Str → Option Value) (cs us : List Str) (sub : Str → Str → Bool) : Prop where
  ad : ∀ c ∈ cs, ExC K mg c ∧ ∀ A, mg c = some (.ref A) → ExcC K A
  na : ∀ c ∈ us, ∃ A, mg c = some (.ref A)
  pr : ∀ c ∈ cs, ∀ u ∈ us, ∀ A B, mg c = some (.ref A) → mg u = some (.ref B) → PySem.W.exmOne K (.ref A) (.ref B) = some (sub c u) ∧ PySem.W.kitOne K (.ref A) (.ref B) = some (sub c u)
def subO (cs : List Str) (sub : Str → Str → Bool) (u : Str) : Str → Option Bool := fun c => if c ∈ cs then some (sub c u) else none
section
variable {K : PySem.W.Frag} {mg : Str → Option Value} {cs us : List Str} {sub : Str → Str → Bool} {u : Str}
theorem ExT.sub' (T : ExT K mg cs us sub) (hu : u ∈ us) {B : Addr} (hB : mg u = some (.ref B)) : ∀ c' b, subO cs sub u c' = some b → ∀ A, mg c' = some (.ref A) → PySem.W.exmOne K (.ref A) (.ref B) = some b := by
  intro c' b h A hA
  unfold subO at h
  by_cases hc : c' ∈ cs
  · rw [if_pos hc] at h
    cases h
    exact (T.pr c' hc u hu A B hA hB).1
  · rw [if_neg hc] at h
    cases h
end
section
variable {X : Cx} {W : WX} {x n : Str} {i : Nat} {body suite orelse : List Stmt} {b₀ : Stmt} {np pos pos' : Pos} {fb fe : SF} {fs : Str → SF} {cs us : List Str} {sub : Str → Str → Bool}
/-- by the law's table -/
theorem f_tryT (i : Nat) (T : ExT X.K X.mg cs us sub) (hx : x ∈ us) (hg : Gl X x) (hdb : (x == ("__debug__" : Str)) = false) (ho : PSs X orelse (tS (cfg X) W fe)) (hs : X.stack = X.env :: X.outer) (hf : X.env.frame = some X.env.locals) (hN : X.N.Nodup) (hi : X.N[i]? = some n) (hln : X.env.kindOf n = some .local) (tk : Takes X W)
    (hb : ∀ (W : WX) (pn : List (Addr × Obj)) (xe : Value → Shared → Prop), Takes (X.tr pn xe) W → PassesOwn (model X.prog X.w) X.A X.env xe → PSs (X.tr pn xe) body (tS (cfg X) W fb))
    (hsu : ∀ (c' : Str) (a : Addr) (oe : Obj) (cls : Value) (d : Option Addr) (pn : List (Addr × Obj)), c' ∈ cs → Zc cls d oe → (∃ vs, oe.data = .fields vs) → PSs (X.suite a ((a, oe) :: pn)) (b₀ :: suite) (tSp (Pc X i c' a cls d) (tS (cfg X) W0 (fs c')))) :
    PS X (.Try body [.ExceptHandler (some (.Name x np)) (some n) (b₀ :: suite) pos'] orelse [] pos) (tS (cfg X) W (sTryAE i (subO cs sub x) fb (fun c => if c ∈ cs then fs c else fun _ _ _ => .no) fe)) := by
  obtain ⟨B, hB⟩ := T.na x hx
  refine f_tryAE i (T.sub' hx hB) ho hs hf hN hi hln ⟨hg, hdb, .inl hB⟩ tk hb fun c' a oe cls d pn hz hd => ?_
  by_cases hc : c' ∈ cs
  · rw [if_pos hc]
    exact hsu c' a oe cls d pn hc hz hd
  · rw [if_neg hc]
    exact pss_imp (t := fun _ _ _ => False) ⟨fun _ _ _ _ _ _ h => h.elim⟩ fun D σ H ⟨_, _, _, _, _, _, _, q⟩ => q
end
theorem exm_both {K : PySem.W.Frag} {A C : Addr} {b b' : Bool} (h1 : PySem.W.subIn K (.ref C) (.type "BaseException") = some true) (hd : PySem.W.hasDictIn K C = true) (ht : PySem.W.typeIn K (.ref C) = some (.type "type")) (h4 : PySem.W.subIn K (.ref A) (.ref C) = some b) (he : (Value.ref A == Value.ref C) = b') (hb : b' = true → b = true) : PySem.W.exmOne K (.ref A) (.ref C) = some b ∧ PySem.W.kitOne K (.ref A) (.ref C) = some b := by
  have e := PySem.W.exm_ref h1 hd ht h4
  refine ⟨e, ?_⟩
  unfold PySem.W.kitOne
  rw [he]
  cases b' with
  | true => rw [if_pos rfl, hb rfl]
  | false =>
    rw [if_neg (by decide)]
    unfold PySem.W.exmOne at e
    rw [h1] at e
    exact e
end Fx
/-! dict == dict; for k in d. -/
namespace Fx
open PySem PySem.Spec L2
/-- the values of two dicts compared, key by key -/
inductive HitsV (K : PySem.W.Frag) (H : Hp) (lvs : List (Key × V)) : List (Key × V) → Bool → Prop
  | nil : HitsV K H lvs [] true
  | miss {k : Key} {v : V} {r : List (Key × V)} : valV lvs k = none → HitsV K H lvs ((k, v) :: r) false
  | hit {k : Key} {v y : V} {d e : PyData} {r : List (Key × V)} {b : Bool} : valV lvs k = some y → Dp K H v d → Dp K H y e → SeqAt.shaped d = true → SeqAt.shaped e = true → HitsV K H lvs r b → HitsV K H lvs ((k, v) :: r) (PyData.eqv d e && b)
section
variable {X : Cx} {pins : List (Addr × Obj)} {σ : L2.St} {H : Hp} {s : Shared}
end
section
variable {C : Cfg} {ρ : Zn} {H : Hp}
end
section
variable {ro w : List D}
end

/-! ### a heap in which a dict is locked -/
structure Rde (H H' : Hp) : Prop where
  rd : ∀ a u, (∀ o u', u ≠ .frz o u') → Rd H a u → Rd H' a u
  ins : ∀ a A dx fs, H a = some (.ins A dx fs) → H' a = some (.ins A dx fs)
  there : ∀ a o, H a = some o → ∃ o', H' a = some o'
section
variable {C : Cfg} {ρ : Zn} {H H' : Hp}
theorem Rde.still {a : Addr} {u : HO} (x : Rde H H') (hu : ∀ o u', u ≠ .frz o u') (h : Still ρ H a u) : Still ρ H' a u := ⟨h.1, x.rd a u hu h.2⟩
end

/-! ### the keys -/
section
variable {X : Cx} {W : WX} {pos p pos' : Pos} {elt tg iter : Expr} {ifs : List Expr} {scope : Scope} {own : List (Str × Nat)} {tt : Env → M Bool} {f : EF} {t : Tg} {x : Str} {σ : L2.St} {H : Hp} {ρ : Zn}
/-- for k in d -/
def OS.calm : OS → OS
  | .go fl env w => .go fl env w
  | _ => .no
end
section
variable {t : Tg} {own : List Nat} {i : Nat} {tt : Env → M Bool} {f : EF} {k : List D → M D} {env : Env} {ro w : List D} {ks xs : List D} {body : SF}
end
end Fx
/-! Dicts whose keys are tuples, nested too. -/
namespace Fx
open PySem PySem.Spec L2 PyProof.Rows
section
variable {X : Cx} {pins : List (Addr × Obj)} {σ : L2.St} {H : Hp} {s : Shared} {ρ : Zn}
mutual
theorem Rep.nest (I : Inv X pins σ H s) : ∀ (d : D) {v : V} {u : Value} {κ : NestedKey}, toKey d = some κ → Rep (cfg X) ρ H d v → RelV v u → NestedIs s.heap κ u
  | .int i, v, u, κ, e, h, r => by
    cases e
    cases (show v = .int i from h)
    obtain ⟨t, rfl⟩ := (show ∃ t, u = Value.int i t from r)
    exact .int i t
  | .str x, v, u, κ, e, h, r => by
    cases e
    cases (show v = .str x from h)
    obtain ⟨t, rfl⟩ := (show ∃ t, u = Value.str x t from r)
    exact .text x t
  | .tup ds, v, u, κ, e, ⟨a, vs, ev, h, r⟩, rv => by
    unfold toKey at e
    cases q : toKeys ds with
    | none => rw [q] at e; cases e
    | some ks =>
      rw [q] at e
      cases e
      subst ev
      cases (show u = Value.ref a from rv)
      obtain ⟨its, rl, ⟨o, h1, h2, n, h3⟩, _⟩ := I.tuple (Still.sqT h)
      exact .tup h1 h2 h3 (by simpa using Reps.nest I ds q r rl)
  | .non, v, u, κ, e, _, _ => by cases e
  | .bl _, v, u, κ, e, _, _ => by cases e
  | .fn _, v, u, κ, e, _, _ => by cases e
  | .rng _, v, u, κ, e, _, _ => by cases e
  | .ref _, v, u, κ, e, _, _ => by cases e
  | .lst _, v, u, κ, e, _, _ => by cases e
  | .dic _ _, v, u, κ, e, _, _ => by cases e
  | .dct _ _, v, u, κ, e, _, _ => by cases e
  | .ins _ _ _, v, u, κ, e, _, _ => by cases e
theorem Reps.nest (I : Inv X pins σ H s) : ∀ (ds : List D) {vs : List V} {us : List Value} {ks : List NestedKey}, toKeys ds = some ks → Reps (cfg X) ρ H ds vs → Vals vs us → NestedAll s.heap ks us
  | [], vs, us, ks, e, h, r => by
    cases e
    cases (show vs = [] from h)
    cases r
    exact .nil
  | d :: ds, vs, us, ks, e, ⟨v, r, ev, h1, h2⟩, rv => by
    subst ev
    unfold toKeys at e
    cases q1 : toKey d with
    | none => simp only [q1] at e; cases e
    | some d1 =>
      cases q2 : toKeys ds with
      | none => simp only [q1, q2] at e; cases e
      | some ds2 =>
        simp only [q1, q2] at e
        cases e
        cases rv with
        | cons r1 r2 => exact .cons (Rep.nest I d q1 h1 r1) (Reps.nest I ds q2 h2 r2)
end
end
/-- keys and values of a dict, and its raw triples -/
inductive XR : List D → List V → List (NestedKey × Addr × Value) → Prop
  | nil : XR [] [] []
  | cons {k : D} {v : V} {κ : List NestedKey} {a : Addr} {u : Value} {ks : List D} {vs : List V} {xs : List (NestedKey × Addr × Value)} : toKey k = some (.tup κ) → (NestedKey.tup κ).depth ≤ 8 → RelV v u → XR ks vs xs → XR (k :: ks) (v :: vs) ((.tup κ, a, u) :: xs)
section
variable {P : Program} {w : World} {es : List DictEntry} {ks : List D} {as : List Addr} {vs : List V} {xs : List (NestedKey × Addr × Value)}
theorem XR.keys (h : XR ks vs xs) : ks.map toKey = (xs.map (·.1)).map some := by
  induction h with
  | nil => rfl
  | cons h1 _ _ _ ih => simp only [List.map_cons, h1, ih]
theorem XR.len (h : XR ks vs xs) : ks.length = xs.length := by
  have := congrArg List.length h.keys
  simpa using this
end
section
variable {X : Cx} {pins : List (Addr × Obj)} {σ : L2.St} {H : Hp} {s : Shared} {ρ : Zn} {es : List DictEntry} {ep : Nat} {ks : List D} {as : List Addr} {vs : List V} {xs : List (NestedKey × Addr × Value)} {a : Addr}
end
/-! ### what is held -/
def isKey (k : D) : Bool := match toKey k with
  | some (.tup κ) => decide ((NestedKey.tup κ).depth ≤ 8)
  | _ => false
theorem isKey_some {k : D} (h : isKey k = true) : ∃ κ, toKey k = some (.tup κ) ∧ (NestedKey.tup κ).depth ≤ 8 := by
  unfold isKey at h
  split at h
  · exact ⟨_, by assumption, by simpa using h⟩
  · cases h
def dhasN (ks : List D) (k : D) : Bool := ks.any fun q => decide (toKey q = toKey k)
def dputXN : List D → List D → D → D → List D
  | q :: ks, x :: xs, k, v => (if toKey q = toKey k then v else x) :: dputXN ks xs k v
  | _, _, _, _ => []
def dputN (ks xs : List D) (k v : D) : D := if dhasN ks k = true then .dct ks (dputXN ks xs k v) else .dct (ks ++ [k]) (xs ++ [v])
section
variable {C : Cfg} {ρ : Zn} {H : Hp} {ks ds : List D} {vs : List V} {xs : List (NestedKey × Addr × Value)} {k dv : D} {κ : NestedKey} {v : V} {u : Value} {b : Addr}
theorem XR.snoc {κ : List NestedKey} (hk : toKey k = some (.tup κ)) (hd : (NestedKey.tup κ).depth ≤ 8) (ru : RelV v u) (h : XR ks vs xs) : XR (ks ++ [k]) (vs ++ [v]) (xs ++ [(.tup κ, b, u)]) := by
  induction h with
  | nil => exact .cons hk hd ru .nil
  | cons h1 h2 h3 _ ih => exact .cons h1 h2 h3 ih
end
/-! ### rules -/
section
variable {X : Cx} {pos pos' apos cpos p : Pos} {o i e f value : Expr} {td ty tx tv : TE}
end
end Fx
/-! Sorting of nested tuples: two of them may differ in shape behind the first place at which they differ. -/
namespace Fx.So
open PySem PySem.W PySem.SeqAt PySem.Calls PyProof.Rows
mutual
/-- x < y can be asked -/
def akin : PyData → PyData → Bool
  | .int _, .int _ => true
  | .str _, .str _ => true
  | .tuple xs, .tuple ys => akinAll xs ys
  | _, _ => false
def akinAll : List PyData → List PyData → Bool
  | x :: xs, y :: ys => akin x y && (!PyData.eqv x y || akinAll xs ys)
  | [], _ => true
  | _ :: _, [] => true
end
theorem akin_cons {x y : PyData} {xs ys : List PyData} (h : akinAll (x :: xs) (y :: ys) = true) : akin x y = true ∧ (PyData.eqv x y = true → akinAll xs ys = true) := by
  rw [akinAll, Bool.and_eq_true, Bool.or_eq_true] at h
  refine ⟨h.1, fun e => ?_⟩
  rcases h.2 with z | z
  · rw [e] at z
    cases z
  · exact z
abbrev lx := PyProof.Rows.lexLt itemOrd
mutual
theorem toks_akin : ∀ (x y : PyData), akin x y = true → (PyData.eqv x y = true → keyToks x = keyToks y) ∧ (PyData.eqv x y = false → ∀ l m, lx (keyToks x ++ l) (keyToks y ++ m) = lx (keyToks x) (keyToks y))
  | .int a, y, h => by
    cases y with
    | int b => exact toks_eqv (.int a) (.int b) rfl
    | _ => simp [akin] at h
  | .str a, y, h => by
    cases y with
    | str b => exact toks_eqv (.str a) (.str b) rfl
    | _ => simp [akin] at h
  | .tuple xs, y, h => by
    cases y with
    | tuple ys =>
      have t := toks_akinAll xs ys (by simpa [akin] using h)
      simp only [keyToks, PyData.eqv]
      exact t
    | _ => simp [akin] at h
  | .none, y, h => by cases y <;> simp [akin] at h
  | .bool _, y, h => by cases y <;> simp [akin] at h
  | .list _, y, h => by cases y <;> simp [akin] at h
  | .dict _, y, h => by cases y <;> simp [akin] at h
theorem toks_akinAll : ∀ (xs ys : List PyData), akinAll xs ys = true → (PyData.eqvAll xs ys = true → keyToksAll xs = keyToksAll ys) ∧ (PyData.eqvAll xs ys = false → ∀ l m, lx (keyToksAll xs ++ l) (keyToksAll ys ++ m) = lx (keyToksAll xs) (keyToksAll ys))
  | [], [], _ => ⟨fun _ => rfl, fun e => (by simp [PyData.eqvAll] at e)⟩
  | [], y :: ys, _ => toksAll_eqv [] (y :: ys) rfl
  | x :: xs, [], _ => toksAll_eqv (x :: xs) [] rfl
  | x :: xs, y :: ys, h => by
    obtain ⟨h1, h2⟩ := akin_cons h
    have a := toks_akin x y h1
    have self : ∀ (p q : List (Int ⊕ List Nat)), lx (.inl 1 :: p) (.inl 1 :: q) = lx p q := fun p q => lex_self (O := itemOrd) _ p q
    cases hx : PyData.eqv x y with
    | true =>
      have b := toks_akinAll xs ys (h2 hx)
      refine ⟨fun e => ?_, fun e l m => ?_⟩
      · rw [eqv_all_cons, hx, Bool.true_and] at e
        rw [toks_all_cons, toks_all_cons, a.1 hx, b.1 e]
      · rw [eqv_all_cons, hx, Bool.true_and] at e
        rw [toks_all_cons, toks_all_cons, a.1 hx, List.cons_append, List.cons_append, self, self, List.append_assoc, List.append_assoc]
        exact (lex_pre _ _ _).trans ((b.2 e l m).trans (lex_pre _ _ _).symm)
    | false =>
      refine ⟨fun e => (by rw [eqv_all_cons, hx] at e; cases e), fun _ l m => ?_⟩
      rw [toks_all_cons, toks_all_cons, List.cons_append, List.cons_append, self, self, List.append_assoc, List.append_assoc]
      exact (a.2 hx _ _).trans (a.2 hx _ _).symm
end
theorem lt_yes {x y : PyData} {xs ys : List PyData} (h : akin x y = true) (e : PyData.eqv x y = true) : lx (keyToksAll (x :: xs)) (keyToksAll (y :: ys)) = lx (keyToksAll xs) (keyToksAll ys) := by
  rw [toks_all_cons, toks_all_cons, (toks_akin x y h).1 e]
  exact (lex_self (O := itemOrd) _ _ _).trans (lex_pre _ _ _)
theorem lt_no {x y : PyData} {xs ys : List PyData} (h : akin x y = true) (e : PyData.eqv x y = false) : lx (keyToksAll (x :: xs)) (keyToksAll (y :: ys)) = dataLt x y := by
  rw [toks_all_cons, toks_all_cons]
  exact (lex_self (O := itemOrd) _ _ _).trans ((toks_akin x y h).2 e _ _)
theorem first_akin : ∀ (xs ys : List PyData), akinAll xs ys = true →
    firstLt (pairEq xs ys) (fun j => dataLt (xs.getD j .none) (ys.getD j .none)) (decide (xs.length < ys.length)) (List.range (min xs.length ys.length)) = lx (keyToksAll xs) (keyToksAll ys)
  | [], [], _ => firstLt_toks [] [] rfl
  | [], y :: ys, _ => firstLt_toks [] (y :: ys) rfl
  | x :: xs, [], _ => firstLt_toks (x :: xs) [] rfl
  | x :: xs, y :: ys, h => by
    obtain ⟨h1, h2⟩ := akin_cons h
    have em : min (x :: xs).length (y :: ys).length = min xs.length ys.length + 1 := by
      simp only [List.length_cons]
      omega
    have ed : decide ((x :: xs).length < (y :: ys).length) = decide (xs.length < ys.length) := decide_eq_decide.mpr (by simp)
    rw [em, ed, List.range_succ_eq_map]
    cases hx : PyData.eqv x y with
    | true =>
      rw [firstLt_yes (show pairEq (x :: xs) (y :: ys) 0 = true from hx), firstLt_map, lt_yes h1 hx, ← first_akin xs ys (h2 hx)]
      rfl
    | false =>
      rw [firstLt_no (show pairEq (x :: xs) (y :: ys) 0 = false from hx), lt_no h1 hx]
      rfl
/-! a < b of tuples: < is asked at the first place that differs alone -/
section
open AutoSeq1 (wpAny_loadPart')
open MeetsSeq MeetsSeq2 MeetsSeq3 SeqRoads2

theorem tup_lt (l b : Addr) (us vs : Array Value) (n n2 : Nat) (dd dd2 : Option Addr) (sl sl2 : Array (Option Value)) (e r : Nat → Bool) :
    Meets (Builtin.«tuple.__lt__» ⟨[.ref l, .ref b], []⟩)
      (fun A R s => s.heap.get? l = some { cls := .type "tuple", dict := dd, data := .seq us n, slots := sl } ∧ s.heap.get? b = some { cls := .type "tuple", dict := dd2, data := .seq vs n2, slots := sl2 } ∧
        (∀ j (h1 : j < us.size) (h2 : j < vs.size), (∀ i, i < j → e i = true) → EqAt A.in1 s us[j] vs[j] (e j)) ∧ (∀ j (h1 : j < us.size) (h2 : j < vs.size), (∀ i, i < j → e i = true) → e j = false → RcLt A.in1 s us[j] vs[j] (r j)) ∧
        R (.ok (.ret (.bool (firstLt e r (decide (us.size < vs.size)) (List.range (min us.size vs.size)))))) s) :=
  .of_wp fun prog w A R s h => by
    obtain ⟨hp, g, d, tk, os⟩ := s; obtain ⟨hl, hb, he, hr, h⟩ := h
    have f2 := AutoSeq1.sub_tuple_tuple
    have hZ : (us.toList.zip vs.toList).length = min us.size vs.size := by simp
    wp_walk using wpAny_loadPart' hl, wpAny_loadPart' hb, wpAny_forIn_list _ (fun rest b s' => b.1 = none ∧ s' = ⟨hp, g, d, tk, os⟩ ∧ ∃ i, (∀ k, k < i → e k = true) ∧ rest = (us.toList.zip vs.toList).drop i ∧
      R (.ok (.ret (.bool (firstLt e r (decide (us.size < vs.size)) ((List.range (min us.size vs.size)).drop i))))) ⟨hp, g, d, tk, os⟩) _
    case turn =>
      rintro ⟨p, q⟩ rest c s' ⟨hc, rfl, i, hi, hz, hR⟩
      have lt : i < (us.toList.zip vs.toList).length := by
        rcases Nat.lt_or_ge i (us.toList.zip vs.toList).length with h' | h'
        · exact h'
        · rw [List.drop_of_length_le h'] at hz; cases hz
      have lm : i < min us.size vs.size := hZ ▸ lt
      have l1 : i < us.size := by omega
      have l2 : i < vs.size := by omega
      rw [List.drop_eq_getElem_cons lt] at hz
      injection hz with hpq hrest
      have ep : p = us[i] := by have := congrArg Prod.fst hpq; simpa using this
      have eq : q = vs[i] := by have := congrArg Prod.snd hpq; simpa using this
      subst ep eq
      have dr : (List.range (min us.size vs.size)).drop i = i :: (List.range (min us.size vs.size)).drop (i + 1) := by simp [List.drop_eq_getElem_cons, lm]
      rw [dr] at hR
      have hi' : e i = true → ∀ k, k < i + 1 → e k = true := fun ei k hk => by
        rcases Nat.lt_succ_iff_lt_or_eq.mp hk with z | z
        · exact hi k z
        · rw [z]
          exact ei
      refine wpAny_bind (he i l1 l2 hi prog w _ _ ?_)
      cases ei : e i with
      | true =>
        rw [firstLt_yes ei] at hR
        wp_walk
        exact ⟨rfl, rfl, i + 1, hi' ei, hrest, hR⟩
      | false =>
        rw [firstLt_no ei] at hR
        have z := hr i l1 l2 hi ei prog w
        dsimp only
        generalize PySem.richCompare CmpOp.Lt us[i] vs[i] = rc at z ⊢
        wp_walk
        refine z _ _ ?_
        wp_walk
        exact ⟨_, rfl, hR⟩
    case fin =>
      rintro ⟨b1, b2⟩ s' ⟨hc, rfl, i, hi, hz, hR⟩
      simp only at hc
      subst hc
      have ge : min us.size vs.size ≤ i := by
        rcases Nat.lt_or_ge i (us.toList.zip vs.toList).length with h' | h'
        · rw [List.drop_eq_getElem_cons h'] at hz; cases hz
        · exact hZ ▸ h'
      rw [List.drop_of_length_le (by simpa using ge)] at hR
      wp_walk
      exact ⟨_, rfl, by simpa [Builtin.Tuple.tupleCompareSizes, firstLt] using hR⟩
    case h =>
      exact ⟨rfl, rfl, 0, fun k hk => absurd hk (Nat.not_lt_zero k), rfl, by simpa using h⟩
theorem rc_tup {A : Around} {s : Shared} {l b : Addr} {us vs : Array Value} {e r : Nat → Bool} (hl : s.heap.IsTuple l us) (hb : s.heap.IsTuple b vs) (hu : A.units < cLine)
    (he : ∀ j (h1 : j < us.size) (h2 : j < vs.size), (∀ i, i < j → e i = true) → EqAt A.in1 s us[j] vs[j] (e j)) (hr : ∀ j (h1 : j < us.size) (h2 : j < vs.size), (∀ i, i < j → e i = true) → e j = false → RcLt A.in1 s us[j] vs[j] (r j)) :
    RcLt A s (.ref l) (.ref b) (firstLt e r (decide (us.size < vs.size)) (List.range (min us.size vs.size))) := fun prog w E Q h => by
  obtain ⟨⟨cls, dd, data, sl⟩, ho, hc, n, hd⟩ := id hl
  obtain ⟨⟨cls2, dd2, data2, sl2⟩, ho2, hc2, n2, hd2⟩ := id hb
  simp only at hc hd hc2 hd2
  subst hc hd hc2 hd2
  exact richCompare_meets_room (op := .Lt) ⟨_, ho, rfl⟩ ⟨_, ho2, rfl⟩ F.slot_tuple_lt F.entry_tuple_lt (F.args_tuple_lt_2 _ _) (tup_lt l b us vs n n2 dd dd2 sl sl2 e r) ⟨ho, ho2, he, hr, (fun x => nomatch x), h⟩ hu
end
mutual
/-- x < y of akin data -/
theorem rc_akin : ∀ (x y : PyData) (A : Around) (s : Shared) (u v : Value) (as bs : List Addr), Reads s.heap u x as → Reads s.heap v y bs → akin x y = true → x.canLay0 = true → y.canLay0 = true → A.units + min x.depth y.depth < cLine → RcLt A s u v (dataLt x y)
  | .int a, y, A, s, u, v, as, bs, ra, rb, h, _, _, hu => by
    cases y with
    | int b => exact rcLt_alike (.int a) (.int b) A s u v as bs ra rb rfl (fun z => nomatch z) hu
    | _ => simp [akin] at h
  | .str a, y, A, s, u, v, as, bs, ra, rb, h, _, _, hu => by
    cases y with
    | str b => exact rcLt_alike (.str a) (.str b) A s u v as bs ra rb rfl (fun z => nomatch z) hu
    | _ => simp [akin] at h
  | .tuple xs, y, A, s, u, v, as, bs, ra, rb, h, la, lb, hu => by
    cases y with
    | tuple ys =>
      have hal : akinAll xs ys = true := by simpa [akin] using h
      have la' : PyData.canLayAll0 xs = true := by simpa [PyData.canLay0] using la
      have lb' : PyData.canLayAll0 ys = true := by simpa [PyData.canLay0] using lb
      cases ra with
      | @tuple l o us n _ as₁ h1 h2 h3 h4 =>
        cases rb with
        | @tuple l' o' vs n' _ bs₁ k1 k2 k3 k4 =>
          have n1 : us.size = xs.length := by simpa using ReadsAll.length _ _ _ h4
          have n2 : vs.size = ys.length := by simpa using ReadsAll.length _ _ _ k4
          have fa : PyProof.Rows.lexLt itemOrd (keyToksAll xs) (keyToksAll ys) = _ := (first_akin xs ys hal).symm
          rw [dataLt_tuple, fa, ← n1, ← n2]
          refine rc_tup ⟨_, h1, h2, _, h3⟩ ⟨_, k1, k2, _, k3⟩ (room_here hu) (fun j j1 j2 _ => ?_) fun j j1 j2 hj hjj => ?_
          · have := eqAt_readsAll xs ys A.in1 s us.toList vs.toList _ _ h4 k4 la' lb' (room_in hu) j (by simpa using j1) (by simpa using j2)
            simpa using this
          · have := rc_akinAll xs ys A.in1 s us.toList vs.toList _ _ h4 k4 hal la' lb' (room_in hu) j (by simpa using j1) (by simpa using j2) hj hjj
            simpa using this
    | _ => simp [akin] at h
  | .none, y, _, _, _, _, _, _, _, _, h, _, _, _ => by cases y <;> simp [akin] at h
  | .bool _, y, _, _, _, _, _, _, _, _, h, _, _, _ => by cases y <;> simp [akin] at h
  | .list _, y, _, _, _, _, _, _, _, _, h, _, _, _ => by cases y <;> simp [akin] at h
  | .dict _, y, _, _, _, _, _, _, _, _, h, _, _, _ => by cases y <;> simp [akin] at h
theorem rc_akinAll : ∀ (xs ys : List PyData) (A : Around) (s : Shared) (us vs : List Value) (as bs : List Addr), ReadsAll s.heap us xs as → ReadsAll s.heap vs ys bs → akinAll xs ys = true → PyData.canLayAll0 xs = true → PyData.canLayAll0 ys = true →
    A.units + min (PyData.depthAll xs) (PyData.depthAll ys) < cLine → ∀ j (h1 : j < us.length) (h2 : j < vs.length), (∀ i, i < j → pairEq xs ys i = true) → pairEq xs ys j = false → RcLt A s us[j] vs[j] (dataLt (xs.getD j .none) (ys.getD j .none))
  | [], _, _, _, _, _, _, _, ra, _, _, _, _, _, j, h1, _, _, _ => by cases ra; exact absurd h1 (Nat.not_lt_zero _)
  | _ :: _, [], _, _, _, _, _, _, _, rb, _, _, _, _, j, _, h2, _, _ => by cases rb; exact absurd h2 (Nat.not_lt_zero _)
  | x :: xs, y :: ys, A, s, _, _, _, _, ra, rb, h, la, lb, hu, j, h1, h2, hi, hj => by
    obtain ⟨a1, a2⟩ := akin_cons h
    have la' : x.canLay0 = true ∧ PyData.canLayAll0 xs = true := by simpa [PyData.canLayAll0] using la
    have lb' : y.canLay0 = true ∧ PyData.canLayAll0 ys = true := by simpa [PyData.canLayAll0] using lb
    cases ra with
    | cons r rs =>
      cases rb with
      | cons r' rs' =>
        cases j with
        | zero => exact rc_akin x y A s _ _ _ _ r r' a1 la'.1 lb'.1 (room_head hu)
        | succ j => exact rc_akinAll xs ys A s _ _ _ _ rs rs' (a2 (hi 0 (Nat.succ_pos j))) la'.2 lb'.2 (room_tail hu) j (Nat.lt_of_succ_lt_succ h1) (Nat.lt_of_succ_lt_succ h2) (fun i hij => hi (i + 1) (Nat.succ_lt_succ hij)) hj
end
section
variable {prog : Program} {w : World} {A : Around} {E : Value → Shared → Prop} {s : Shared}
theorem one_akin {f : Bool} {x y : PyData} {u v : Value} {as bs : List Addr} {Q : Bool → Shared → Prop} (hf : f = true → ∀ xs, x ≠ .tuple xs) (ra : Reads s.heap u x as) (rb : Reads s.heap v y bs) (h : akin x y = true) (la : x.canLay0 = true) (lb : y.canLay0 = true)
    (hu : A.units + min x.depth y.depth < cLine) (hq : Q (dataLt x y) s) : wpAny (model prog w) A (oneLt' f u v) Q E s := by
  cases f with
  | false =>
    rw [oneLt'_eq]
    simp only [Bool.false_eq_true, if_false]
    exact wpAny_bind (rc_akin x y A s u v as bs ra rb h la lb hu prog w E _ (wpAny_truthy_bool hq))
  | true =>
    have hal : alike x y = true := by
      cases x with
      | int a => cases y <;> simp [akin] at h <;> rfl
      | str a => cases y <;> simp [akin] at h <;> rfl
      | tuple xs => exact absurd rfl (hf rfl xs)
      | _ => cases y <;> simp [akin] at h
    have hne : x ≠ .none := fun z => by
      rw [z] at h
      cases y <;> simp [akin] at h
    exact oneLt_alike hf ra rb hal hne hu hq
theorem kat_akin {b fin : Bool} {Q : Bool → Shared → Prop} : ∀ (xs ys : List PyData) (i : Nat) (us vs : List Value) (as bs : List Addr), ReadsAll s.heap us xs as → ReadsAll s.heap vs ys bs → akinAll xs ys = true → PyData.canLayAll0 xs = true → PyData.canLayAll0 ys = true →
    A.units + min (PyData.depthAll xs) (PyData.depthAll ys) < cLine → (b = true → i = 0 → ∀ x r t, xs = x :: r → x ≠ .tuple t) → fin = decide (xs.length < ys.length) → Q (lx (keyToksAll xs) (keyToksAll ys)) s → KatLex prog w A b fin Q (us.zip vs) i s
  | [], ys, i, us, vs, as, bs, ra, rb, _, _, _, hu, hb, hf, hq => katLex_alike [] ys i us vs as bs ra rb (by cases ys <;> rfl) hu hb hf hq
  | x :: xs, [], i, us, vs, as, bs, ra, rb, _, _, _, hu, hb, hf, hq => katLex_alike (x :: xs) [] i us vs as bs ra rb rfl hu hb hf hq
  | x :: xs, y :: ys, i, _, _, _, _, ra, rb, h, la, lb, hu, hb, hf, hq => by
    obtain ⟨h1, h2⟩ := akin_cons h
    have la' : x.canLay0 = true ∧ PyData.canLayAll0 xs = true := by simpa [PyData.canLayAll0] using la
    have lb' : y.canLay0 = true ∧ PyData.canLayAll0 ys = true := by simpa [PyData.canLayAll0] using lb
    have hf' : fin = decide (xs.length < ys.length) := by
      rw [hf]
      exact decide_eq_decide.mpr (by simp)
    cases ra with
    | cons r rs =>
      cases rb with
      | cons r' rs' =>
        rw [List.zip_cons_cons]
        refine kat_cons (eqAt_reads x y A s _ _ _ _ r r' la'.1 lb'.1 (room_head hu) prog w _ _ ?_)
        cases hx : PyData.eqv x y with
        | true =>
          rw [lt_yes h1 hx] at hq
          exact kat_yes (kat_akin xs ys (i + 1) _ _ _ _ rs rs' (h2 hx) la'.2 lb'.2 (room_tail hu) (fun _ hi => absurd hi (Nat.succ_ne_zero i)) hf' hq)
        | false =>
          rw [lt_no h1 hx] at hq
          refine kat_no (one_akin (fun hbi t => ?_) r r' h1 la'.1 lb'.1 (room_head hu) hq)
          rw [Bool.and_eq_true] at hbi
          exact hb hbi.1 (by simpa using hbi.2) x xs t rfl
end
/-! what is read is one thing -/
mutual
def plainD : PyData → Bool
  | .int _ => true
  | .str _ => true
  | .tuple xs => plainDs xs
  | _ => false
def plainDs : List PyData → Bool
  | [] => true
  | x :: xs => plainD x && plainDs xs
end
mutual
theorem one_read {h : Heap} : ∀ (d d' : PyData) (v : Value) (as as' : List Addr), plainD d = true → plainD d' = true → Reads h v d as → Reads h v d' as' → d = d'
  | .int _, d', _, _, _, _, p', r, r' => by
    cases r
    cases r' <;> first | rfl | simp [plainD] at p'
  | .str _, d', _, _, _, _, p', r, r' => by
    cases r
    cases r' <;> first | rfl | simp [plainD] at p'
  | .tuple xs, d', _, _, _, p, p', r, r' => by
    cases r with
    | tuple h1 h2 h3 h4 =>
      cases r' with
      | tuple k1 k2 k3 k4 =>
        rw [h1] at k1; cases k1
        rw [h3] at k3; cases k3
        rw [one_reads xs _ _ _ _ (by simpa [plainD] using p) (by simpa [plainD] using p') h4 k4]
      | list k1 k2 k3 k4 => simp [plainD] at p'
      | dict k1 k2 k3 k4 k5 => simp [plainD] at p'
  | .none, _, _, _, _, p, _, _, _ => by simp [plainD] at p
  | .bool _, _, _, _, _, p, _, _, _ => by simp [plainD] at p
  | .list _, _, _, _, _, p, _, _, _ => by simp [plainD] at p
  | .dict _, _, _, _, _, p, _, _, _ => by simp [plainD] at p
theorem one_reads {h : Heap} : ∀ (xs ys : List PyData) (vs : List Value) (as as' : List Addr), plainDs xs = true → plainDs ys = true → ReadsAll h vs xs as → ReadsAll h vs ys as' → xs = ys
  | [], _, _, _, _, _, _, r, r' => by cases r; cases r'; rfl
  | x :: xs, [], _, _, _, _, _, r, r' => by cases r'; cases r
  | x :: xs, y :: ys, _, _, _, p, p', r, r' => by
    have p1 : plainD x = true ∧ plainDs xs = true := by simpa [plainDs] using p
    have p2 : plainD y = true ∧ plainDs ys = true := by simpa [plainDs] using p'
    cases r with
    | cons h1 h2 =>
      cases r' with
      | cons k1 k2 => rw [one_read x y _ _ _ p1.1 p2.1 h1 k1, one_reads xs ys _ _ _ p1.2 p2.2 h2 k2]
end
/-- what can be sorted: all texts; all numbers; all tuples that begin with a text, or with a number -/
def firstT : PyData → Nat
  | .int _ => 0
  | .str _ => 1
  | .tuple (.int _ :: _) => 2
  | .tuple (.str _ :: _) => 3
  | _ => 4
structure CanSort (ds : List PyData) : Prop where
  pl : ∀ d ∈ ds, plainD d = true
  ak : ∀ d ∈ ds, ∀ d' ∈ ds, akin d d' = true
  ft : ∃ n, n < 4 ∧ ∀ d ∈ ds, firstT d = n
theorem kind_some {h : Heap} {ds : List PyData} (hp : ∀ d ∈ ds, plainD d = true) {v : Value} {d : PyData} {as : List Addr} (hd : d ∈ ds) (r : Reads h v d as) : (dataKind h ds).keyOf v = some (keyToks d) := by
  have q : ∃ d, d ∈ ds ∧ ∃ as, Reads h v d as := ⟨d, hd, as, r⟩
  have e : (dataKind h ds).keyOf v = some (keyToks q.choose) := by
    show (open Classical in if q : ∃ d, d ∈ ds ∧ ∃ as, Reads h v d as then some (keyToks q.choose) else none) = _
    rw [dif_pos q]
  obtain ⟨h1, as', h2⟩ := q.choose_spec
  rw [e, one_read _ _ _ _ _ (hp _ h1) (hp _ hd) h2 r]
theorem tup_first {d : PyData} {n : Nat} (h : firstT d = n) (hn : n < 4) : (n = 0 ∧ ∃ i, d = .int i) ∨ (n = 1 ∧ ∃ x, d = .str x) ∨ (n = 2 ∧ ∃ i r, d = .tuple (.int i :: r)) ∨ (n = 3 ∧ ∃ x r, d = .tuple (.str x :: r)) := by
  unfold firstT at h
  split at h
  · exact .inl ⟨h.symm, _, rfl⟩
  · exact .inr (.inl ⟨h.symm, _, rfl⟩)
  · exact .inr (.inr (.inl ⟨h.symm, _, _, rfl⟩))
  · exact .inr (.inr (.inr ⟨h.symm, _, _, rfl⟩))
  · omega
theorem sorts_akin {prog : Program} {w : World} {A : Around} {s : Shared} {vs : List Value} {ds : List PyData} (e : EachIs (fun v d => ∃ as, Reads s.heap v d as) vs ds) (C : CanSort ds) (hl : ∀ d ∈ ds, d.canLay0 = true) (hu : ∀ d, d ∈ ds → A.units + d.depth < cLine) : SortsAt prog w A s (dataKind s.heap ds) vs := by
  have room : ∀ {d d' : PyData}, d ∈ ds → A.units + min d.depth d'.depth < cLine := fun {d d'} hd => Nat.lt_of_le_of_lt (Nat.add_le_add_left (Nat.min_le_left _ _) _) (hu d hd)
  obtain ⟨n, hn, ft⟩ := C.ft
  have keys : ∀ v, v ∈ vs → ∃ a, (dataKind s.heap ds).keyOf v = some a := fun v hv => by
    obtain ⟨d, hd, as, r⟩ := e.left v hv
    exact ⟨_, kind_some C.pl hd r⟩
  -- tuples
  have tups : ∀ (T : Value), (T == T) = true → (T != Value.type "tuple") = true → (∀ d ∈ ds, ∃ x r, d = .tuple (x :: r) ∧ dataType x = T ∧ ∀ t, x ≠ .tuple t) → SortsAt prog w A s (dataKind s.heap ds) vs := fun T hTT hT hall => by
    refine ⟨keys, tuples' (T != Value.type "tuple"), ?_, fun h2 E Q hq => ?_⟩
    · intro E x y a b Q ha hb hq
      obtain ⟨d, as, hd, ra, rfl⟩ := dataKind_inv ha
      obtain ⟨d', as', hd', rb, rfl⟩ := dataKind_inv hb
      have hdd := C.ak d hd d' hd'
      have hroom := room (d' := d') hd
      have l1 := hl d hd
      have l2 := hl d' hd'
      obtain ⟨x1, r1, rfl, _, nt⟩ := hall d hd
      obtain ⟨x2, r2, rfl, _⟩ := hall d' hd'
      have hq' : Q (dataLt (.tuple (x1 :: r1)) (.tuple (x2 :: r2))) s := hq
      rw [dataLt_tuple] at hq'
      cases ra with
      | @tuple l o xs n _ _ h1 h2 h3 h4 =>
        cases rb with
        | @tuple l' o' xs' n' _ _ k1 k2 k3 k4 =>
          have n1 : xs.size = (x1 :: r1).length := by simpa using SeqAt.ReadsAll.length _ _ _ h4
          have n2 : xs'.size = (x2 :: r2).length := by simpa using SeqAt.ReadsAll.length _ _ _ k4
          refine kat_lt h1 h3 k1 k3 (kat_akin (x1 :: r1) (x2 :: r2) 0 _ _ _ _ h4 k4 (by simpa [akin] using hdd) (by simpa [PyData.canLay0] using l1) (by simpa [PyData.canLay0] using l2) (by have q := SeqAt.room_in hroom; omega) (fun _ _ x r t ex => ?_) (by rw [n1, n2]) hq')
          obtain ⟨rfl, rfl⟩ := List.cons.inj ex
          exact nt t
    · obtain ⟨fs, t1, t2, t3⟩ := each_katTups e (fun d hd => by obtain ⟨x, r, e1, _⟩ := hall d hd; exact ⟨x, r, e1⟩)
      refine kat_kind (T := T) t1 (by omega) (fun f hf => ?_) hTT hq
      obtain ⟨x, r, as, m1, m2⟩ := t3 f hf
      obtain ⟨x', r', e1, e2, _⟩ := hall _ m1
      injection e1 with e1
      injection e1 with e1 _
      rw [← e2, ← e1]
      exact looks_reads m2
  have al : (∀ d ∈ ds, ∀ d' ∈ ds, alike d d' = true) → (∀ d ∈ ds, d ≠ .none ∧ ∀ xs, d ≠ .tuple xs) → SortsAt prog w A s (dataKind s.heap ds) vs := fun h1 h2 => SortsAt.data e h1 (.inr h2) hu
  by_cases hne : ds = []
  · subst hne
    exact al (fun d hd => by cases hd) fun d hd => by cases hd
  obtain ⟨d0, hd0⟩ := List.exists_mem_of_ne_nil _ hne
  rcases tup_first (ft d0 hd0) hn with ⟨e0, _⟩ | ⟨e0, _⟩ | ⟨e0, _⟩ | ⟨e0, _⟩
  · subst e0
    have all : ∀ d ∈ ds, ∃ i, d = .int i := fun d hd => by rcases tup_first (ft d hd) hn with ⟨_, z⟩ | ⟨z, _⟩ | ⟨z, _⟩ | ⟨z, _⟩ <;> first | exact z | cases z
    exact al (fun d hd d' hd' => by obtain ⟨i, rfl⟩ := all d hd; obtain ⟨j, rfl⟩ := all d' hd'; rfl) fun d hd => by obtain ⟨i, rfl⟩ := all d hd; exact ⟨(fun z => nomatch z), (fun _ z => nomatch z)⟩
  · subst e0
    have all : ∀ d ∈ ds, ∃ i, d = .str i := fun d hd => by rcases tup_first (ft d hd) hn with ⟨z, _⟩ | ⟨_, z⟩ | ⟨z, _⟩ | ⟨z, _⟩ <;> first | exact z | cases z
    exact al (fun d hd d' hd' => by obtain ⟨i, rfl⟩ := all d hd; obtain ⟨j, rfl⟩ := all d' hd'; rfl) fun d hd => by obtain ⟨i, rfl⟩ := all d hd; exact ⟨(fun z => nomatch z), (fun _ z => nomatch z)⟩
  · subst e0
    refine tups (.type "int") (beq_self_eq_true _) (by decide) fun d hd => ?_
    rcases tup_first (ft d hd) hn with ⟨z, _⟩ | ⟨z, _⟩ | ⟨_, i, r, z⟩ | ⟨z, _⟩
    · cases z
    · cases z
    · exact ⟨.int i, r, z, rfl, fun t z => nomatch z⟩
    · cases z
  · subst e0
    refine tups (.type "str") (beq_self_eq_true _) (by decide) fun d hd => ?_
    rcases tup_first (ft d hd) hn with ⟨z, _⟩ | ⟨z, _⟩ | ⟨z, _⟩ | ⟨_, i, r, z⟩
    · cases z
    · cases z
    · cases z
    · exact ⟨.str i, r, z, rfl, fun t z => nomatch z⟩
end Fx.So
/-! Dicts with nested tuples as keys, sorted(..): what they do to trees. -/
namespace Fx
open PySem PySem.Spec L2 PyProof.Rows PySem.W
section
variable {C : Cfg} {ρ : Zn} {H : Hp}
theorem Seen.dct {ks ds : List D} {v : V} (h : Seen C ρ H (.dct ks ds) v) : ∃ a es ep as vs, v = .ref a ∧ Rd H a (DNo a es ep) ∧ DEnts C.w es ks as vs ∧ (ks.map toKey).Nodup ∧ Reps C ρ H ks (as.map .ref) ∧ Reps C ρ H ds vs := by
  rcases h with ⟨a, es, ep, as, vs, e, h, en, nd, rk, r⟩ | ⟨a, e, es, ep, as, vs, h, en, nd, rk, r⟩
  · exact ⟨a, es, ep, as, vs, e, h.2, en, nd, rk, r⟩
  · exact ⟨a, es, ep, as, vs, e, .inl h, en, nd, rk, r⟩
theorem Seen.key {k : D} {v : V} (h : Seen C ρ H k v) (hk : isKey k = true) : Rep C ρ H k v := by
  rcases h with h | ⟨a, e, h⟩
  · exact h
  · obtain ⟨κ, e1, _⟩ := isKey_some hk
    cases k with
    | tup ds => exact (show False from h).elim
    | _ => cases e1
theorem key_ref {k : D} {v : V} (h : Rep C ρ H k v) {κ : List NestedKey} (hk : toKey k = some (.tup κ)) : ∃ b, v = .ref b := by
  cases k with
  | tup ds => obtain ⟨a, vs, e, _⟩ := h; exact ⟨a, e⟩
  | _ => cases hk
end
section
variable {X : Cx} {ρ : Zn} {H : Hp}
end
/-- d[k] = v -/
def gPutN (v o k : D) : M D := match o with
  | .ref n => fun ro w => if n < ro.length then .no else match w[n - ro.length]? with
    | some (.dct ks xs) => if isKey k = true ∧ ks.length < sizeLine then .ok .non (w.set (n - ro.length) (dputN ks xs k v)) else .no
    | _ => .no
  | _ => M.no
def cNewN : EF := fun _ => mNew (.dct [] [])
def sPutN (fo fk fv : EF) : SF := sLift fv fun v => sLift fo fun o => sLift fk fun k => sLift (fun _ => gPutN v o k) fun _ env _ w => .go .nx env w
section
variable {C : Cfg} {W : WX} {σ : L2.St} {ρ : Zn} {H : Hp} {ro w : List D} {Q : VK}
end
section
variable {X : Cx} {W : WX} {fo fk fv f : EF} {o i e value : Expr} {p pos pos' apos : Pos}
end
/-! ### sorted -/
abbrev kle : PyData → PyData → Bool := sortLe (listOrd itemOrd) false keyToks
def canSort (ps : List PyData) : Bool := ps.all So.plainD && ps.all (fun d => ps.all fun d' => So.akin d d') && ps.all (fun d => d.canLay0 && decide (d.depth ≤ 64)) && (match ps with
  | [] => true
  | p :: _ => decide (So.firstT p < 4) && ps.all fun d => decide (So.firstT d = So.firstT p))
def sortD (ds : List D) : List D := ds.mergeSort fun d e => kle d.py e.py
theorem canSort_ok {ps : List PyData} (h : canSort ps = true) : So.CanSort ps ∧ (∀ d ∈ ps, d.canLay0 = true) ∧ ∀ d ∈ ps, d.depth ≤ 64 := by
  unfold canSort at h
  simp only [Bool.and_eq_true, List.all_eq_true, decide_eq_true_eq] at h
  obtain ⟨⟨⟨h1, h2⟩, h3⟩, h4⟩ := h
  refine ⟨⟨h1, h2, ?_⟩, fun d hd => (h3 d hd).1, fun d hd => (h3 d hd).2⟩
  cases ps with
  | nil => exact ⟨0, by decide, fun d hd => by cases hd⟩
  | cons p ps =>
    simp only [Bool.and_eq_true, List.all_eq_true, decide_eq_true_eq] at h4
    exact ⟨_, h4.1, h4.2⟩
/-- the items that are sorted, with what they are -/
abbrev sortZ (zs : List (V × PyData)) : List (V × PyData) := zs.mergeSort fun a b => kle a.2 b.2
structure SortZ (K : PySem.W.Frag) (H : Hp) (zs : List (V × PyData)) : Prop where
  dp : ∀ z ∈ zs, Dp K H z.1 z.2
  can : canSort (zs.map (·.2)) = true
  len : zs.length ≤ sizeLine
theorem each_map {P : Value → PyData → Prop} {us : List Value} {zs : List (V × PyData)} (h : EachIs (fun u z => P u z.2) us zs) : EachIs P us (zs.map (·.2)) := by
  induction h with
  | nil => exact .nil
  | cons h _ ih => exact .cons h ih
theorem each_vals {us : List Value} {zs : List (V × PyData)} (h : EachIs (fun u z => RelV z.1 u) us zs) : Vals (zs.map (·.1)) us := by
  induction h with
  | nil => exact .nil
  | cons h _ ih => exact .cons h ih
section
variable {X : Cx}
theorem sort_core {pins : List (Addr × Obj)} {σ : L2.St} {H : Hp} {s : Shared} (I : Inv X pins σ H s) (hu : X.A.units + 70 < cLine) {zs : List (V × PyData)} {us : List Value} (Z : SortZ X.K H zs) (rv : EachIs (fun u z => RelV z.1 u) us zs) {h : Heap} (hk : ∀ b o, s.heap.get? b = some o → h.get? b = some o) {A : Around} (hA : A.units ≤ X.A.units + 3) {g : Array GenState} {d : Drawn} {tk : Nat} {os : OsState} :
    SortsAt X.prog X.w A ⟨h, g, d, tk, os⟩ (dataKind h (zs.map (·.2))) us ∧ EachIs (fun u z => RelV z.1 u) (sortVals (dataKind h (zs.map (·.2))) false us us) (sortZ zs) := by
  obtain ⟨c1, c2, c3⟩ := canSort_ok Z.can
  have I' : Inv X pins σ H { s with heap := h } := I.kept (t' := s.toks) hk
  have rd : EachIs (fun u z => ∃ as, Reads h u z.2 as) us zs := by
    have : ∀ {us : List Value} {zs : List (V × PyData)}, (∀ z ∈ zs, Dp X.K H z.1 z.2) → EachIs (fun u z => RelV z.1 u) us zs → EachIs (fun u z => ∃ as, Reads h u z.2 as) us zs := by
      intro us zs hz h
      induction h with
      | nil => exact .nil
      | @cons u z us zs h _ ih => exact .cons (Dp.reads I' _ _ _ (hz z List.mem_cons_self) h) (ih fun z' hz' => hz z' (List.mem_cons_of_mem _ hz'))
    exact this Z.dp rv
  have rd2 : EachIs (fun v d => ∃ as, Reads h v d as) us (zs.map (·.2)) := each_map (P := fun v d => ∃ as, Reads h v d as) rd
  refine ⟨So.sorts_akin (s := ⟨h, g, d, tk, os⟩) rd2 c1 c2 fun d hd => ?_, ?_⟩
  · have := c3 d hd
    omega
  · refine sortVals_each (κ := dataKind h (zs.map (·.2))) (rev := false) (fun z => keyToks z.2) rv ?_
    have : ∀ {us : List Value} {ys : List (V × PyData)}, (∀ y ∈ ys, y ∈ zs) → EachIs (fun u z => ∃ as, Reads h u z.2 as) us ys → EachIs (fun v b => (dataKind h (zs.map (·.2))).keyOf v = some (keyToks b.2)) us ys := by
      intro us ys hy h
      induction h with
      | nil => exact .nil
      | @cons u z us ys h _ ih =>
        obtain ⟨as, r⟩ := h
        exact .cons (So.kind_some c1.pl (List.mem_map.mpr ⟨z, hy z List.mem_cons_self, rfl⟩) r) (ih fun y hy' => hy y (List.mem_cons_of_mem _ hy'))
    exact this (fun _ h => h) rd
end
section
variable {C : Cfg} {ρ : Zn} {H : Hp}
theorem pys_map : ∀ ds : List D, D.pys ds = ds.map D.py
  | [] => rfl
  | d :: ds => by simp only [D.pys, List.map_cons, pys_map ds]
end
section
variable {X : Cx}
theorem hu70 {k : Nat} {A : Around} (r : Room k A) : A.units + 70 < cLine := by
  have := r.un
  omega
end
section
variable {fo fk fv : EF} {env : Env} {ro w : List D}
@[simp] theorem x_newN : cNewN env ro w = .ok (.ref (ro.length + w.length)) (w ++ [.dct [] []]) := by
  show mNew _ ro w = _
  simp
@[simp] theorem x_putN : sPutN fo fk fv env ro w = (fv env ro w).st env fun v w1 => (fo env ro w1).st env fun o w2 => (fk env ro w2).st env fun k w3 => (gPutN v o k ro w3).st env fun _ w4 => .go .nx env w4 := by
  refine x_lift.trans (congrArg _ ?_)
  funext v w1
  refine x_lift.trans (congrArg _ ?_)
  funext o w2
  refine x_lift.trans (congrArg _ ?_)
  funext i w3
  exact x_lift
end
end Fx
/-! zip, min, abs, join, dicts written out. -/
namespace Fx
open PySem PySem.Spec L2 PyProof.Rows
/-! ### zip of two lists -/
def zipD (ds es : List D) : List D := (ds.zip es).map fun q => .tup [q.1, q.2]
def gZip : List D → M (List D)
  | [.lst ds, .lst es] => M.pure (zipD ds es)
  | _ => M.no
def cZip (fs : Env → M (List D)) : Env → M (List D) := fun env => M.bind (fs env) gZip
section
variable {X : Cx} {W : WX} {pos p tpos apos : Pos} {a b e o : Expr} {es elts : List Expr} {kk : Nat} {fs : Env → M (List D)} {f fo : EF}
/-! ### min, abs -/
def gMin2 : List D → M D
  | [.int i, .int j] => M.pure (.int (if j < i then j else i))
  | _ => M.no
def rAbs : List V → Hp → VK → Prop := fun xs H Q => ∃ i, xs = [.int i] ∧ Q (.int (if i < 0 then -i else i)) H
theorem cf_abs : CallR X (.builtin "abs") rAbs := call_abs
def gAbs : D → M D
  | .int i => M.pure (.int i.natAbs)
  | _ => M.no
theorem ok_abs {C : Cfg} : Ok1 C rAbs gAbs := by
  intro W σ ρ H ro w d x Q hS hd q
  cases d with
  | int i =>
    refine ⟨i, by rw [hd.int], ?_⟩
    have e : (if i < 0 then -i else i) = (i.natAbs : Int) := by
      split <;> omega
    rw [e]
    exact ok_int hS q
  | _ => exact (show False from q).elim
/-! ### join -/
end
/-! ### {k: v, ..} -/
def cPairs : List (EF × EF) → Env → M (List (D × D))
  | [], _ => M.pure []
  | (k, v) :: r, env => M.bind (k env) fun x => M.bind (v env) fun y => M.bind (cPairs r env) fun ps => M.pure ((x, y) :: ps)
def putD (d : D) (kv : D × D) : D := match d with
  | .dic ks xs => dput ks xs kv.1 kv.2
  | d => d
def gDisp (ps : List (D × D)) : M D := fun _ w => if (ps.all fun kv => (keyOf kv.1).isSome) = true ∧ ps.length ≤ 15 then .ok (ps.foldl putD (.dic [] [])) w else .no
def cDisp (ps : List (EF × EF)) : EF := fun env => M.bind (cPairs ps env) gDisp
section
variable {X : Cx} {W : WX} {pos : Pos} {keys : List (Option Expr)} {values : List Expr} {k v : Expr} {ps : List (EF × EF)} {fk fv : EF}
end
section
variable {env : Env} {ro w : List D} {f fo fk fv : EF} {fs : Env → M (List D)} {i j : Int}
@[simp] theorem x_zip : cZip fs env ro w = (fs env ro w).an fun ds w1 => gZip ds ro w1 := by
  show M.bind (fs env) _ ro w = _
  simp
@[simp] theorem zip_lst {ds es : List D} : gZip [.lst ds, .lst es] ro w = .ok (zipD ds es) w := rfl
@[simp] theorem min_int : gMin2 [.int i, .int j] ro w = .ok (.int (if j < i then j else i)) w := rfl
@[simp] theorem abs_int : gAbs (.int i) ro w = .ok (.int i.natAbs) w := rfl
@[simp] theorem x_disp1 : cDisp [(fk, fv)] env ro w = (fk env ro w).an fun k w1 => (fv env ro w1).an fun v w2 => if (keyOf k).isSome = true then .ok (.dic [k] [v]) w2 else .no := by
  show M.bind (cPairs [(fk, fv)] env) gDisp ro w = _
  unfold cPairs
  simp only [x_bind]
  cases fk env ro w with
  | ok k w1 =>
    simp only [an_ok]
    cases fv env ro w1 with
    | ok v w2 =>
      simp only [an_ok]
      unfold cPairs gDisp
      simp [putD, dput, dhas]
    | _ => rfl
  | _ => rfl
end
section
variable {X : Cx} {W : WX} {pos : Pos} {a b : Expr} {fa fb : EF}
end
end Fx
/-! A call whose things end with it; a changing list compared with a list. -/
namespace Fx
open PySem PySem.Spec L2
namespace Lw
end Lw
end Fx
/-! Formulas and texts, sorted; formulas as keys. -/
namespace Fx
open PySem PySem.Spec L2 PyProof.Rows PySem.W
/-! ### keys -/
mutual
def ofKey : NestedKey → D
  | .none => .non
  | .num i => .int i
  | .text x => .str x
  | .tup ks => .tup (ofKeys ks)
def ofKeys : List NestedKey → List D
  | [] => []
  | k :: ks => ofKey k :: ofKeys ks
end
mutual
theorem of_toKey : ∀ (d : D) {κ : NestedKey}, toKey d = some κ → ofKey κ = d
  | .int i, κ, h => by cases h; rfl
  | .str i, κ, h => by cases h; rfl
  | .tup ds, κ, h => by
    unfold toKey at h
    cases q : toKeys ds with
    | none => rw [q] at h; cases h
    | some ks =>
      rw [q] at h
      cases h
      simp only [ofKey, of_toKeys ds q]
  | .non, κ, h => by cases h
  | .bl _, κ, h => by cases h
  | .fn _, κ, h => by cases h
  | .rng _, κ, h => by cases h
  | .ref _, κ, h => by cases h
  | .lst _, κ, h => by cases h
  | .dic _ _, κ, h => by cases h
  | .dct _ _, κ, h => by cases h
  | .ins _ _ _, κ, h => by cases h
theorem of_toKeys : ∀ (ds : List D) {κ : List NestedKey}, toKeys ds = some κ → ofKeys κ = ds
  | [], κ, h => by cases h; rfl
  | d :: ds, κ, h => by
    unfold toKeys at h
    cases q1 : toKey d with
    | none => simp only [q1] at h; cases h
    | some d1 =>
      cases q2 : toKeys ds with
      | none => simp only [q1, q2] at h; cases h
      | some ds2 =>
        simp only [q1, q2] at h
        cases h
        simp only [ofKeys, of_toKey d q1, of_toKeys ds q2]
end
theorem toKey_inj {d e : D} {κ : NestedKey} (h : toKey d = some κ) (h' : toKey e = some κ) : d = e := (of_toKey d h).symm.trans (of_toKey e h')
theorem Fm.key : ∀ φ : Fm, ∃ κ, toKey φ.toD = some (.tup κ) ∧ (NestedKey.tup κ).depth = φ.ht
  | .fal => ⟨_, rfl, rfl⟩
  | .var x => ⟨_, rfl, rfl⟩
  | .imp a b => by
    obtain ⟨κ, h1, h2⟩ := a.key
    obtain ⟨μ, g1, g2⟩ := b.key
    exact ⟨[.text "implies", .tup κ, .tup μ], by simp only [Fm.toD, toKey, toKeys, h1, g1]; rfl, by simp only [NestedKey.depth, NestedKey.depthAll] at h2 g2 ⊢; simp only [Fm.ht]; omega⟩
  | .and a b => by
    obtain ⟨κ, h1, h2⟩ := a.key
    obtain ⟨μ, g1, g2⟩ := b.key
    exact ⟨[.text "and", .tup κ, .tup μ], by simp only [Fm.toD, toKey, toKeys, h1, g1]; rfl, by simp only [NestedKey.depth, NestedKey.depthAll] at h2 g2 ⊢; simp only [Fm.ht]; omega⟩
  | .or a b => by
    obtain ⟨κ, h1, h2⟩ := a.key
    obtain ⟨μ, g1, g2⟩ := b.key
    exact ⟨[.text "or", .tup κ, .tup μ], by simp only [Fm.toD, toKey, toKeys, h1, g1]; rfl, by simp only [NestedKey.depth, NestedKey.depthAll] at h2 g2 ⊢; simp only [Fm.ht]; omega⟩
  | .box a => by
    obtain ⟨κ, h1, h2⟩ := a.key
    exact ⟨[.text "box", .tup κ], by simp only [Fm.toD, toKey, toKeys, h1]; rfl, by simp only [NestedKey.depth, NestedKey.depthAll] at h2 ⊢; simp only [Fm.ht]; omega⟩
theorem Fm.isKey {φ : Fm} (h : φ.ht ≤ 8) : isKey φ.toD = true := by
  obtain ⟨κ, h1, h2⟩ := φ.key
  unfold Fx.isKey
  rw [h1]
  simp only [h2, h, decide_true]
/-! ### order -/
theorem Fm.plainD : ∀ φ : Fm, So.plainD φ.toD.py = true
  | .fal => rfl
  | .var _ => rfl
  | .imp a b => by simp [Fm.toD, D.py, D.pys, So.plainD, So.plainDs, a.plainD, b.plainD]
  | .and a b => by simp [Fm.toD, D.py, D.pys, So.plainD, So.plainDs, a.plainD, b.plainD]
  | .or a b => by simp [Fm.toD, D.py, D.pys, So.plainD, So.plainDs, a.plainD, b.plainD]
  | .box a => by simp [Fm.toD, D.py, D.pys, So.plainD, So.plainDs, a.plainD]
theorem Fm.firstT : ∀ φ : Fm, So.firstT φ.toD.py = 3
  | .fal => rfl
  | .var _ => rfl
  | .imp a b => rfl
  | .and a b => rfl
  | .or a b => rfl
  | .box a => rfl
theorem eqv_lit {a b : String} : PyData.eqv (.str (Str.ofString a)) (.str (Str.ofString b)) = decide (a = b) := by
  rw [Bool.eq_iff_iff]
  simp [PyData.eqv, ofString_inj]
theorem ak2 {t u : String} {xs ys : List PyData} (h : t = u → So.akinAll xs ys = true) : So.akin (.tuple (.str (Str.ofString t) :: xs)) (.tuple (.str (Str.ofString u) :: ys)) = true := by
  rw [So.akin, So.akinAll, So.akin, eqv_lit]
  by_cases c : t = u
  · rw [h c]
    simp
  · simp [c]
theorem akc {x y : PyData} {xs ys : List PyData} (h : So.akin x y = true) (h' : So.akinAll xs ys = true) : So.akinAll (x :: xs) (y :: ys) = true := by
  rw [So.akinAll, h, h']
  simp
theorem ak0 : So.akinAll [] [] = true := by rw [So.akinAll]
theorem akS {x y : Str} : So.akin (.str x) (.str y) = true := by rw [So.akin]
theorem Fm.akin : ∀ φ ψ : Fm, So.akin φ.toD.py ψ.toD.py = true
  | .fal, ψ => by
    cases ψ with
    | fal => exact ak2 fun _ => ak0
    | _ => exact ak2 fun h => absurd h (by decide)
  | .var _, ψ => by
    cases ψ with
    | var y => exact ak2 fun _ => akc akS ak0
    | _ => exact ak2 fun h => absurd h (by decide)
  | .imp a b, ψ => by
    have ia := a.akin
    have ib := b.akin
    cases ψ with
    | imp c d => exact ak2 fun _ => akc (ia c) (akc (ib d) ak0)
    | _ => exact ak2 fun h => absurd h (by decide)
  | .and a b, ψ => by
    have ia := a.akin
    have ib := b.akin
    cases ψ with
    | and c d => exact ak2 fun _ => akc (ia c) (akc (ib d) ak0)
    | _ => exact ak2 fun h => absurd h (by decide)
  | .or a b, ψ => by
    have ia := a.akin
    have ib := b.akin
    cases ψ with
    | or c d => exact ak2 fun _ => akc (ia c) (akc (ib d) ak0)
    | _ => exact ak2 fun h => absurd h (by decide)
  | .box a, ψ => by
    have ia := a.akin
    cases ψ with
    | box c => exact ak2 fun _ => akc (ia c) ak0
    | _ => exact ak2 fun h => absurd h (by decide)
theorem toks_ne {x y : PyData} (h : So.akin x y = true) (e : PyData.eqv x y = false) : keyToks x ≠ keyToks y := fun q => by
  have z := (So.toks_akin x y h).2 e [.inl 0] [.inl 1]
  rw [q] at z
  have z1 : So.lx (keyToks y ++ [.inl 0]) (keyToks y ++ [.inl 1]) = true := (lex_pre (keyToks y) [.inl 0] [.inl 1]).trans (by rw [lex_one]; rfl)
  have z2 : So.lx (keyToks y) (keyToks y) = false := lex_irrefl _
  rw [z1, z2] at z
  cases z
abbrev kTot : TotalLe kle := sortLe_total (listOrd itemOrd) false keyToks
theorem kle_toks {x y : PyData} (h1 : kle x y = true) (h2 : kle y x = true) : keyToks x = keyToks y := by
  have a : (!So.lx (keyToks y) (keyToks x)) = true := h1
  have b : (!So.lx (keyToks x) (keyToks y)) = true := h2
  exact (listOrd itemOrd).total _ _ (by simpa using b) (by simpa using a)
theorem kle_anti {x y : PyData} (h : So.akin x y = true) (h1 : kle x y = true) (h2 : kle y x = true) : PyData.eqv x y = true := by
  cases e : PyData.eqv x y with
  | true => rfl
  | false => exact absurd (kle_toks h1 h2) (toks_ne h e)
/-- a kind of things that are sorted -/
structure Sk (α : Type) where
  f : α → D
  inj : ∀ a b, f a = f b → a = b
  nb : ∀ a, (f a).nb = true
  akin : ∀ a b, So.akin (f a).py (f b).py = true
  plain : ∀ a, So.plainD (f a).py = true
  ft : Nat
  lt : ft < 4
  first : ∀ a, So.firstT (f a).py = ft
def fmS : Sk Fm := ⟨Fm.toD, fun _ _ h => Fm.toD_inj.mp h, Fm.nb, Fm.akin, Fm.plainD, 3, by decide, Fm.firstT⟩
section
variable {α : Type} (S : Sk α)
def Sk.le (a b : α) : Bool := kle (S.f a).py (S.f b).py
def Sk.sort (l : List α) : List α := l.mergeSort S.le
theorem Sk.tot : TotalLe S.le := ⟨fun a b c h1 h2 => kTot.trans _ _ _ h1 h2, fun a b => kTot.total _ _⟩
theorem Sk.anti {a b : α} (h1 : S.le a b = true) (h2 : S.le b a = true) : a = b :=
  S.inj a b ((eqv_nb _ _ (S.nb a) (S.nb b)).mp (kle_anti (S.akin a b) h1 h2))
theorem Sk.sorted (l : List α) : (S.sort l).Pairwise fun a b => S.le a b = true := sort_pairwise S.tot l
theorem Sk.mem {l : List α} {a : α} : a ∈ S.sort l ↔ a ∈ l := (List.mergeSort_perm l S.le).mem_iff
theorem Sk.perm (l : List α) : (S.sort l).Perm l := List.mergeSort_perm l S.le
/-- what is sorted without repetitions is one list -/
theorem Sk.one {l m : List α} (hl : l.Pairwise fun a b => S.le a b = true) (hm : m.Pairwise fun a b => S.le a b = true) (nl : l.Nodup) (nm : m.Nodup) (h : ∀ a, a ∈ l ↔ a ∈ m) : l = m :=
  List.Perm.eq_of_pairwise (le := fun a b => S.le a b = true) (fun a b _ _ h1 h2 => S.anti h1 h2) hl hm ((List.perm_ext_iff_of_nodup nl nm).mpr h)
theorem Sk.sortD (l : List α) : sortD (l.map S.f) = (S.sort l).map S.f := by
  unfold Fx.sortD Sk.sort
  exact (sort_maps S.f fun a _ b _ => rfl).symm
theorem Sk.can {l : List α} (h1 : ∀ a ∈ l, (S.f a).lay = true) (h2 : ∀ a ∈ l, (S.f a).dp ≤ 64) : canSort (D.pys (l.map S.f)) = true := by
  rw [pys_map, List.map_map]
  unfold canSort
  simp only [Bool.and_eq_true, List.all_eq_true, decide_eq_true_eq, List.mem_map, Function.comp, forall_exists_index, and_imp, forall_apply_eq_imp_iff₂]
  refine ⟨⟨⟨fun a _ => S.plain a, fun a _ b _ => S.akin a b⟩, fun a ha => ⟨by rw [D.py_lay]; exact h1 a ha, by rw [D.py_dp]; exact h2 a ha⟩⟩, ?_⟩
  cases l with
  | nil => rfl
  | cons b l =>
    simp only [List.map_cons, Bool.and_eq_true, decide_eq_true_eq, List.all_eq_true, Function.comp]
    rw [S.first b]
    refine ⟨S.lt, fun d hd => ?_⟩
    rcases List.mem_cons.mp hd with e | hd
    · rw [e]
      exact S.first b
    · obtain ⟨a, _, rfl⟩ := List.mem_map.mp hd
      exact S.first a
theorem Sk.flats (l : List α) : D.flats (l.map S.f) = true := by
  rw [flats_iff]
  intro d hd
  obtain ⟨a, _, rfl⟩ := List.mem_map.mp hd
  exact D.nb_flat _ (S.nb a)
end
/-! ### each once: of a sorted list -/
section
variable {α : Type} [DecidableEq α]
def ddS (acc : List α) (a : α) : List α := if acc.getLast? = some a then acc else acc ++ [a]
def dd (l : List α) : List α := l.foldl ddS []
end
/-! ### what is collected -/
structure ColOk (φ : Fm) (ks : List Fm) (r : List Fm) : Prop where
  nd : r.Nodup
  sub : ∀ χ ∈ ks, χ ∈ r
  sup : ∀ χ ∈ r, χ ∈ ks ∨ χ ∈ φ.all
  all : ∀ χ ∈ φ.all, χ ∈ r
  len : r.length ≤ ks.length + φ.sz
end Fx
/-! Statements behind which what they have made stands still. -/
namespace Fx
open PySem PySem.Spec L2
/-- what stands behind: the objects that were there ahead; the rest is told -/
def cutW (n m : Nat) (w : List D) : Option (List D) := if m ≤ w.length ∧ (w.take m).all (D.under (n + m)) = true then some (w.take m) else none
def tellE (n m : Nat) (w : List D) (env : Env) : Env := env.map fun o => o.bind (D.tell (told (n + m) (w.drop m) 4))
def sTell (s : SF) : SF := fun env ro w => match s env ro w with
  | .go .nx env' w' => (match cutW ro.length w.length w' with
    | some w2 => .go .nx (tellE ro.length w.length w' env') w2
    | none => .no)
  | _ => .no
section
variable {C : Cfg} {W : WX} {ρ ρ' : Zn} {H H' : Hp} {ro w w' w2 : List D} {σ : L2.St} {env : Env}
theorem cutW_some {n m : Nat} (h : cutW n m w = some w2) : m ≤ w.length ∧ (w.take m).all (D.under (n + m)) = true ∧ w2 = w.take m := by
  unfold cutW at h
  split at h
  · rename_i c
    cases h
    exact ⟨c.1, c.2, rfl⟩
  · cases h
theorem split_at (h : w.length ≤ w'.length) : ro ++ w' = (ro ++ w'.take w.length) ++ w'.drop w.length := by
  rw [List.append_assoc, List.take_append_drop]
theorem cut_len (h : w.length ≤ w'.length) : (ro ++ w'.take w.length).length = ro.length + w.length := by
  rw [List.length_append, List.length_take, Nat.min_eq_left h]
theorem tell_back (hS : RepS C ρ H (ro ++ w)) (hc : cutW ro.length w.length w' = some w2) (x : Ext ρ ρ' H H') (s : RepS C ρ' H' (ro ++ w')) : Ext ρ (ρ'.take (ro.length + w.length)) H H' ∧ RepS C (ρ'.take (ro.length + w.length)) H' (ro ++ w2) := by
  obtain ⟨h1, h2, rfl⟩ := cutW_some hc
  have hlen : ρ.r.length = ro.length + w.length := by rw [hS.len, List.length_append]
  obtain ⟨⟨ν, p⟩, g1, k1, m1⟩ := x
  refine ⟨⟨⟨[], ?_⟩, g1, fun a o e n => ⟨(k1 a o e n).1, Out.take (k1 a o e n).2⟩, m1⟩, ?_⟩
  · show ρ'.r.take _ = _
    rw [p, ← hlen, List.take_left', List.append_nil]
    rfl
  · have z := RepS.take (n := ro.length + w.length) s fun i d hi hd => ?_
    · rw [split_at h1, List.take_left' (cut_len h1)] at z
      exact z
    · by_cases c : i < ro.length
      · rw [List.getElem?_append_left c] at hd
        have hr : i < ρ.r.length := by omega
        have := RepO.below (hS.obj i ρ.r[i] d (List.getElem?_eq_getElem hr) (by rw [List.getElem?_append_left c]; exact hd))
        rw [hlen] at this
        exact this
      · rw [List.getElem?_append_right (by omega)] at hd
        refine List.all_eq_true.mp h2 d (List.mem_of_getElem? (i := i - ro.length) ?_)
        rw [List.getElem?_take_of_lt (by omega)]
        exact hd
end
section
variable {X : Cx} {W : WX} {st : Stmt} {sts rest : List Stmt} {s t : SF}
end
section
variable {ro w : List D} {env : Env} {s : SF}
end
end Fx
/-! Own classes: fields, methods, new instances. -/
namespace Fx
open PySem PySem.Spec L2
/-! ### fields -/
def fieldV : List Str → List D → Str → Option D
  | n :: ns, x :: xs, f => if f = n then some x else fieldV ns xs f
  | _, _, _ => none
def putI : List Str → List D → Str → D → List Str × List D
  | n :: ns, x :: xs, f, d => if n = f then (n :: ns, d :: xs) else (n :: (putI ns xs f d).1, x :: (putI ns xs f d).2)
  | _, _, f, d => ([f], [d])
/-- what is known of a class: where it stands, which names are no attributes of it -/
structure ClX (K : PySem.W.Frag) (mg : Str → Option Value) (c : Str) (fs : List Str) : Prop where
  ex : ∃ A, mg c = some (.ref A) ∧ Cls K A ∧ ∀ f ∈ fs, NoAttr K A f
def gFld (c f : Str) (d : D) : M D := match d with
  | .ins c' ns xs => if c' = c then (match fieldV ns xs f with
    | some x => M.pure x
    | none => M.no) else M.no
  | _ => M.no
def cFld (c f : Str) (fo : EF) : EF := fun env => M.bind (fo env) fun o => M.bind (M.see o) fun o => gFld c f o
def gSetF (c f : Str) (v o : D) : M D := match o with
  | .ref n => fun ro w => if n < ro.length then .no else match w[n - ro.length]? with
    | some (.ins c' ns xs) => if c' = c ∧ ns.length < 1000 then .ok .non (w.set (n - ro.length) (.ins c (putI ns xs f v).1 (putI ns xs f v).2)) else .no
    | _ => .no
  | _ => M.no
def sSetF (c f : Str) (fo fv : EF) : SF := sLift fv fun v => sLift fo fun o => sLift (fun _ => gSetF c f v o) fun _ env _ w => .go .nx env w
section
variable {C : Cfg} {ρ : Zn} {H : Hp} {ro w : List D}
theorem Seen.ins {c : Str} {ns : List Str} {xs : List D} {v : V} (h : Seen C ρ H (.ins c ns xs) v) : ∃ a A dx fs, v = .ref a ∧ C.mg c = some (.ref A) ∧ H a = some (.ins A dx fs) ∧ ns = fs.map (·.1) ∧ Reps C ρ H xs (fs.map (·.2)) := by
  rcases h with ⟨a, A, dx, fs, e, m, n, h, k, r⟩ | ⟨a, e, A, dx, fs, m, h, k, r⟩
  · exact ⟨a, A, dx, fs, e, m, h, k, r⟩
  · exact ⟨a, A, dx, fs, e, m, h, k, r⟩
end
section
variable {X : Cx} {W : WX} {pos pos' apos : Pos} {o e : Expr} {es : List Expr} {c f m x : Str} {fs : List Str} {fo fv : EF}
end
/-! ### what is called -/
/-- a call of what stands at A does what g says -/
def CallsTo (X : Cx) (A : Addr) (g : List D → M D) (np : Nat) : Prop := ∀ (pins : List (Addr × Obj)) (s : Shared) (σ : L2.St) (H : Hp) (us : List Value) (vs : List V) (Q : VK) (E : XK), PassesAt (L2.CX X.prog X.w) X σ E → Inv X pins σ H s → Vals vs us →
  spF (cfg X) g np vs H Q E → wpAny (model X.prog X.w) X.A (call (.ref A) us) (EP X pins σ Q) X.xe s
structure MakeOk (P : Program) (w : World) (K : PySem.W.Frag) (mg : Str → Option Value) (base : Heap) (n : Nat) (c : Str) (g : List D → M D) (np : Nat) : Prop where
  ex : ∃ A, mg c = some (.ref A) ∧ PySem.W.keepIn K (.ref A) = true ∧ ∀ X : Cx, X.prog = P → X.w = w → X.K = K → X.mg = mg → X.base = base → Room n X.A → CallsTo X A g np
/-- a method m of the class c -/
structure MethOk (P : Program) (w : World) (K : PySem.W.Frag) (mg : Str → Option Value) (base : Heap) (n : Nat) (c m : Str) (g : List D → M D) (np : Nat) : Prop where
  ex : ∃ A f, mg c = some (.ref A) ∧ Cls K A ∧ Meth K A m f ∧ ∀ X : Cx, X.prog = P → X.w = w → X.K = K → X.mg = mg → X.base = base → Room n X.A → CallsTo X f g np
section
variable {X : Cx} {W : WX} {pos p apos : Pos} {o e : Expr} {es : List Expr} {c m x : Str} {fo : EF} {fs : Env → M (List D)} {g : List D → M D} {n np : Nat}
end
/-! ### what is called does what the def says -/
section
variable {X : Cx} {g : List D → M D} {np : Nat}
theorem after_pure {C : Cfg} {W : WX} {σ : L2.St} {ρ : Zn} {H : Hp} {ro v ds : List D} {Q : VK} (hS : RepS C ρ H (ro ++ v)) (q : AfterR C (Rep C) W σ ρ H ro (pureD g ds ro v) Q) : AfterR C (Rep C) W σ ρ H (ro ++ v) (g ds (ro ++ v) []) Q := by
  have hlen : ρ.r.length = (ro ++ v).length := hS.len
  have back : ∀ {ρ' : Zn} {H' : Hp} {w' : List D}, Ext ρ ρ' H H' → RepS C ρ' H' ((ro ++ v) ++ w') → Ext ρ (ρ'.take (ro ++ v).length) H H' ∧ RepS C (ρ'.take (ro ++ v).length) H' (ro ++ v) := by
    intro ρ' H' w' x s
    have hl : w'.length ≥ ([] : List D).length := Nat.zero_le _
    obtain ⟨a, b⟩ := tell_back (ro := ro ++ v) (w := []) (w' := w') (w2 := []) (by rw [List.append_nil]; exact hS) (by unfold cutW; rw [if_pos ⟨Nat.zero_le _, rfl⟩]; rfl) x s
    rw [List.append_nil] at b
    exact ⟨a, b⟩
  unfold pureD at q
  cases e : g ds (ro ++ v) [] with
  | no =>
    simp only [e] at q
    exact q
  | ok d w' =>
    simp only [e] at q
    cases et : D.tell (told (ro ++ v).length w' 4) d with
    | none =>
      simp only [et] at q
      exact (show False from q).elim
    | some d' =>
      simp only [et] at q
      intro u ρ' H' x s r
      obtain ⟨x2, s2⟩ := back x s
      exact q u _ H' x2 s2 (Rep.tell (told_ok s 4) d et r)
  | exn c ns xs w' =>
    simp only [e] at q
    cases et : D.tells (told (ro ++ v).length w' 4) xs with
    | none =>
      simp only [et] at q
      exact (show False from q).elim
    | some xs' =>
      simp only [et] at q
      intro cls dx ρ' H' x s r
      obtain ⟨x2, s2⟩ := back x s
      exact q cls dx _ H' x2 s2 (RepX.tell (told_ok s 4) et r)
theorem CallsTo.pure {A : Addr} (h : CallsTo X A g np) : CallsTo X A (pureD g) np := by
  intro pins s σ H us vs Q E hx I r ⟨ρ, ds, ro, w, hl, hS, hR, q⟩
  exact h pins s σ H us vs Q E hx I r ⟨ρ, ds, ro ++ w, [], hl, by rw [List.append_nil]; exact hS, hR, after_pure hS q⟩
theorem CallsTo.fn {f : Addr} {fd : FuncData} {ps : List Str} {k : Nat} (F : FnOk X.prog X.w X.K X.mg X.base (L2.CX X.prog X.w) k f fd ps (spF (cfg X) g np)) (hb : Binds X.K fd ps []) (hr : Room k X.A) : CallsTo X f g np :=
  fun pins s σ H us vs Q E hx I r q => run_fnS (E := fun _ => E) F hr hb hx I r q
end
section
variable {P : Program} {w : World} {K : PySem.W.Frag} {mg : Str → Option Value} {base : Heap} {n np : Nat} {c m : Str} {g : List D → M D}
end
/-! ### what they give -/
section
variable {ro w : List D} {env : Env} {fo fv : EF} {fs : Env → M (List D)} {c f m : Str} {g : List D → M D}
@[simp] theorem x_fld : cFld c f fo env ro w = (fo env ro w).an fun d w1 => gFld c f (see ro w1 d) ro w1 := by
  show M.bind (fo env) _ ro w = _
  simp
@[simp] theorem x_setF : sSetF c f fo fv env ro w = (fv env ro w).st env fun v w1 => (fo env ro w1).st env fun o w2 => (gSetF c f v o ro w2).st env fun _ w3 => .go .nx env w3 := by
  refine x_lift.trans (congrArg _ ?_)
  funext v w1
  refine x_lift.trans (congrArg _ ?_)
  funext o w2
  exact x_lift
end
end Fx
/-! A constant table; what a suite returns; a < b < c; bits; x, y = e. -/
namespace Fx
open PySem PySem.Spec L2
/-! ### a constant dict with text keys -/
def KD (C : Cfg) (d : D) (v : V) : Prop := ∀ ρ H, Rep C ρ H d v
def KDs (C : Cfg) (ds : List D) (vs : List V) : Prop := ∀ ρ H, Reps C ρ H ds vs
theorem kds_nil {C : Cfg} : KDs C [] [] := fun _ _ => rfl
theorem kds_cons {C : Cfg} {d : D} {v : V} {ds : List D} {vs : List V} (h : KD C d v) (r : KDs C ds vs) : KDs C (d :: ds) (v :: vs) := fun ρ H => ⟨v, vs, rfl, h ρ H, r ρ H⟩
theorem kd_tup {C : Cfg} {ds : List D} {vs : List V} {t : Addr} {dd : Option Addr} {sl : Array (Option Value)} {ep : Nat} {its : List Value} (hk : C.K.lookup t = some ⟨.type "tuple", dd, .seq its.toArray ep, sl⟩) (hv : Vals vs its) (hl : vs.length ≤ 1000) (r : KDs C ds vs) : KD C (.tup ds) (.ref t) := fun ρ H => by
  have e := hv.length
  exact ⟨t, vs, rfl, .inr ⟨_, its.toArray, ep, hk, rfl, rfl, by rw [List.size_toArray, ← e]; exact Nat.le_of_lt (small1000 hl), by simpa using hv⟩, r ρ H⟩
structure TabK (C : Cfg) (x : Str) (rows : List (Str × D)) : Prop where
  ex : ∃ p, C.mg x = some (.ref p) ∧ ∀ q ∈ rows, ∃ v, KDct C.K C.w p q.1 v ∧ KD C q.2 v
def tabV : List (Str × D) → Str → Option D
  | [], _ => none
  | q :: r, x => if x = q.1 then some q.2 else tabV r x
theorem tabV_mem {x : Str} {d : D} : ∀ {rows : List (Str × D)}, tabV rows x = some d → (x, d) ∈ rows
  | [], h => by cases h
  | q :: r, h => by
    unfold tabV at h
    split at h
    · rename_i c
      cases h
      rw [c]
      exact List.mem_cons_self
    · exact List.mem_cons_of_mem _ (tabV_mem h)
def gTab (rows : List (Str × D)) (d : D) : M D := match d with
  | .str x => (match tabV rows x with
    | some v => M.pure v
    | none => M.no)
  | _ => M.no
def cTab (rows : List (Str × D)) (fe : EF) : EF := fun env => M.bind (fe env) fun d => M.bind (M.see d) fun d => gTab rows d
section
variable {X : Cx} {W : WX} {pos pos' : Pos} {a b e o : Expr} {x : Str} {rows : List (Str × D)} {fa fb fc fe : EF} {ta tb tc : Fx.Env → M Bool}
theorem pf_tab (T : TabK (cfg X) x rows) (hg : Gl X x) (he : PE X e (tE (cfg X) W fe)) (hs : PlainIx e) (hd : (x == ("__debug__" : Str)) = false := by decide) : PE X (.Subscript (.Name x pos') e pos) (tE (cfg X) W (cTab rows fe)) := by
  obtain ⟨p, hm, hr⟩ := T.ex
  refine pe_imp (pe_ix ix_kdict (pe_glob (v := .ref p) hg hm rfl hd) he hs) fun σ H Q ⟨ρ, env, ro, w, hS, hE, q⟩ => ?_
  refine tR_seq hS hE q fun d w1 v ρ1 H1 x1 s1 r1 q1 => ?_
  have sd := seen_of s1 r1
  have q2 : AfterR (cfg X) (Rep (cfg X)) W σ ρ1 H1 ro (gTab rows (see ro w1 d) ro w1) Q := q1
  generalize see ro w1 d = d' at sd q2
  unfold gTab at q2
  cases d' with
  | str z =>
    simp only at q2
    cases et : tabV rows z with
    | none => rw [et] at q2; exact (show False from q2).elim
    | some y =>
      rw [et] at q2
      obtain ⟨v', k1, k2⟩ := hr _ (tabV_mem et)
      exact ⟨p, z, v', rfl, sd.str, k1, ok_same s1 (k2 _ _) q2⟩
  | _ => exact (show False from q2).elim
end
section
variable {ro w : List D} {env : Fx.Env} {fe : EF} {rows : List (Str × D)}
@[simp] theorem x_tab : cTab rows fe env ro w = (fe env ro w).an fun d w1 => gTab rows (see ro w1 d) ro w1 := by
  show M.bind (fe env) _ ro w = _
  simp
theorem tab_str {x : Str} {d : D} (h : tabV rows x = some d) : gTab rows (.str x) ro w = .ok d w := by
  unfold gTab
  simp only [h]
  rfl
end
/-! ### what a suite returns -/
section
variable {X : Cx} {P : L2.St → Prop} {W : WX} {C : Cfg} {a b e : Expr} {rest : List Expr} {pos : Pos} {fa fb : EF}
theorem pfp_one {op} (h : PE X a (tEp P (tE C W fa))) : PE X (.BoolOp op [a] pos) (tEp P (tE C W fa)) := pe_one h
theorem pfp_and (ha : PE X a (tEp P (tE C W fa))) (hb : PE X (.BoolOp .And (b :: rest) pos) (tEp P (tE C W fb))) : PE X (.BoolOp .And (a :: b :: rest) pos) (tEp P (tE C W (cAnd fa fb))) := pe_imp (pe_and ha hb) fun σ H Q ⟨p, ρ, env, ro, w, hS, hE, q⟩ => by
  refine ⟨p, tR_seq hS hE q fun d w1 v ρ1 H1 x1 s1 r1 q1 => ?_⟩
  cases d with
  | bl k =>
    refine ⟨k, r1, ?_⟩
    cases k with
    | true => exact ⟨p, ρ1, env, ro, w1, s1, hE.ext x1, q1⟩
    | false => exact ok_bl s1 q1
  | _ => exact (show False from q1).elim
/-- isinstance(e, C) as a value -/
theorem pfp_isT {i : Nat} {cs us : List Str} {sub : Str → Str → Bool} {c' cn en : Str} {A : Addr} {oe : Obj} {cls : Value} {d : Option Addr} {pn : List (Addr × Obj)} {p q1 q2 : Pos} (T : ExT X.K X.mg cs us sub) (hc : c' ∈ cs) (hu : cn ∈ us) (hz : Zc cls d oe) (hf : ∃ vs, oe.data = .fields vs) (hg : Gl (X.suite A ((A, oe) :: pn)) "isinstance") (hm : X.mg "isinstance" = none) (hgc : Gl (X.suite A ((A, oe) :: pn)) cn)
    (hN : X.N[i]? = some en := by rfl) (hv : Vis X.env.scope en := by first | exact Or.inl rfl | exact Or.inr (Or.inl rfl) | exact Or.inr (Or.inr rfl)) (hd : (en == ("__debug__" : Str)) = false := by decide) (hcd : (en == ("__classdict__" : Str)) = false := by decide) (hdc : (cn == ("__debug__" : Str)) = false := by decide)
    (hs1 : starEach [.Name en q1, .Name cn q2] X.env = (false, eval (.Name en q1) X.env) :: starEach [.Name cn q2] X.env := by rfl) (hs2 : starEach [.Name cn q2] X.env = (false, eval (.Name cn q2) X.env) :: starEach [] X.env := by rfl) (hpl : (backTo pos (starEach [.Name cn q2] X.env)).any (·.1) = false := by rfl) :
    PE (X.suite A ((A, oe) :: pn)) (.Call (.Name "isinstance" p) [.Name en q1, .Name cn q2] [] pos) (tEp (Pc X i c' A cls d) (tE C W (cK (.bl (sub c' cn))))) := by
  obtain ⟨C2, h2⟩ := T.na cn hu
  refine ⟨fun pins s σ H Q I ⟨⟨hσ, ⟨B, hB, hcl⟩, hdn⟩, ρ, env, ro, w, hS, hE, q⟩ => ?_⟩
  subst hcl hdn
  have pe := pe_callB (pos := pos) (p := p) (call_isE (a := A) (pn := pn) ((T.ad c' hc).2 B hB) hz hf) hg hm PyProof.Rows.boot_isinstance (pa_cons (pe_var (X := X.suite A ((A, oe) :: pn)) (pos := q1) hN hv hd hcd) (pa_cons (pe_glob (X := X.suite A ((A, oe) :: pn)) (pos := q2) (v := .ref C2) hgc h2 rfl hdc) pa_nil hs2) hs1) (by decide) (by decide) hs1 hpl
  refine pe.run pins s σ H Q I ?_
  exact ⟨.ref A, hσ, .ref C2, .ref C2, sub c' cn, rfl, fun u hu => hu, (T.pr c' hc cn hu B C2 hB h2).2, q (.bl (sub c' cn)) ρ H .refl hS rfl⟩
end
/-! ### a < b < c -/
def cChain (g g' : D → D → M D) (fa fb fc : EF) : EF := fun env => M.bind (fa env) fun a => M.bind (fb env) fun b => M.bind (M.bind (M.see a) fun a' => M.bind (M.see b) fun b' => g a' b') fun z => match z with
  | .bl true => M.bind (fc env) fun c => M.bind (M.see b) fun b' => M.bind (M.see c) fun c' => g' b' c'
  | .bl false => M.pure (.bl false)
  | _ => M.no
section
variable {X : Cx} {W : WX} {C : Cfg} {pos : Pos} {a b c : Expr} {fa fb fc : EF} {op op' : CmpOp} {r r' : R2} {g g' : D → D → M D}
theorem tE_chain (hr : Ok2 C r g) (hr' : Ok2 C r' g') {σ : L2.St} {H : Hp} {Q : VK} (q : tE C W (cChain g g' fa fb fc) σ H Q) : tChain r r' (tE C W fa) (tE C W fb) (tE C W fc) σ H Q := by
  obtain ⟨ρ, env, ro, w, hS, hE, q⟩ := q
  refine tR_seq hS hE q fun da w1 va ρ1 H1 x1 s1 r1 q1 => ?_
  refine tR_seq s1 (hE.ext x1) q1 fun db w2 vb ρ2 H2 x2 s2 r2 q2 => ?_
  have sa := seen_of s2 (Rep.ext x2 da r1)
  have sb := seen_of s2 r2
  refine hr W σ ρ2 H2 ro w2 _ _ va vb _ s2 sa sb ?_
  have q3 : AfterR C (Rep C) W σ ρ2 H2 ro ((g (see ro w2 da) (see ro w2 db) ro w2).an fun z w3 => (match z with
      | .bl true => M.bind (fc env) fun c => M.bind (M.see db) fun b' => M.bind (M.see c) fun c' => g' b' c'
      | .bl false => M.pure (.bl false)
      | _ => M.no) ro w3) Q := by
    have q2' := q2
    simp only [x_bind, x_see, an_ok] at q2' ⊢
    exact q2'
  cases eg : g (see ro w2 da) (see ro w2 db) ro w2 with
  | no => rw [eg] at q3; exact q3
  | exn c ns xs w3 => rw [eg] at q3; exact q3
  | ok z w3 =>
    rw [eg] at q3
    intro v ρ3 H3 x3 s3 r3
    cases z with
    | bl k =>
      refine ⟨k, r3, ?_⟩
      cases k with
      | true =>
        rw [if_pos rfl]
        refine tR_seq s3 (((hE.ext x1).ext x2).ext x3) (AfterR.ext x3 q3) fun dc w4 vc ρ4 H4 x4 s4 r4 q4 => ?_
        exact hr' W σ ρ4 H4 ro w4 _ _ vb vc Q s4 (seen_of s4 (Rep.ext x4 db (Rep.ext x3 db r2))) (seen_of s4 r4) q4
      | false =>
        rw [if_neg (by decide)]
        exact ok_bl s3 (AfterR.ext x3 q3)
    | _ => exact (show False from q3).elim
theorem pf_chain (ho : OpR X (compareOp op) r) (hr : Ok2 C r g) (ho' : OpR X (compareOp op') r') (hr' : Ok2 C r' g') (ha : PE X a (tE C W fa)) (hb : PE X b (tE C W fb)) (hc : PE X c (tE C W fc))
    (hm : lastMarks [op, op'] [b, c] = false := by with_unfolding_all rfl) : PE X (.Compare a [op, op'] [b, c] pos) (tE C W (cChain g g' fa fb fc)) := pe_imp (pe_chain ho ho' ha hb hc hm) fun _ _ _ q => tE_chain hr hr' q
theorem pt_chainF (ho : OpR X (compareOp op) r) (hr : Ok2 C r g) (ho' : OpR X (compareOp op') r') (hr' : Ok2 C r' g') (ha : PE X a (tE C W fa)) (hb : PE X b (tE C W fb)) (hc : PE X c (tE C W fc))
    (hm : lastMarks [op, op'] [b, c] = false := by with_unfolding_all rfl) : PT X (.Compare a [op, op'] [b, c] pos) (tT C W (cTest (cChain g g' fa fb fc))) := pt_imp (pt_chain ho ho' ha hb hc hm) fun σ H Q ⟨ρ, env, ro, w, hS, hE, q⟩ => by
  refine tE_chain hr hr' ⟨ρ, env, ro, w, hS, hE, ?_⟩
  unfold cTest M.bind at q
  cases e : cChain g g' fa fb fc env ro w with
  | ok d w1 =>
    rw [e] at q
    intro v ρ1 H1 x1 s1 r1
    cases d with
    | bl k => exact ⟨k, r1, q k ρ1 H1 x1 s1 rfl⟩
    | _ => exact (show False from q).elim
  | exn c ns xs w1 =>
    rw [e] at q
    exact q
  | no => rw [e] at q; exact q
end
/-! ### bits -/
def gBand (x y : D) : M D := match x, y with
  | .int i, .int j => M.pure (.int (Builtin.bitAnd i j))
  | _, _ => M.no
def gBor (x y : D) : M D := match x, y with
  | .int i, .int j => M.pure (.int (Builtin.bitOr i j))
  | _, _ => M.no
def gShr (x y : D) : M D := match x, y with
  | .int i, .int j => if j = (j.natAbs : Int) then M.pure (.int (i / 2 ^ j.toNat)) else M.no
  | _, _ => M.no
def gShl (x y : D) : M D := match x, y with
  | .int i, .int j => if j = (j.natAbs : Int) ∧ j.natAbs ≤ 1000000 ∧ i.natAbs < 2 ^ 64 then M.pure (.int (i * 2 ^ j.toNat)) else M.no
  | _, _ => M.no
/-! ### x, y = e -/
def sAsg (t : Tg) (f : EF) : SF := sLift f fun d env _ w => match t.put d env with
  | some env' => .go .nx env' w
  | none => .no
section
variable {X : Cx} {W : WX} {pos : Pos} {tg e : Expr} {t : Tg} {f : EF}
theorem f_asg (hg : PG X tg (t.g X.K)) (he : PE X e (tE (cfg X) W f)) (hs : swapsWithSole [tg] e pos.line X.env = pure false := by rfl) (hw : swappedStores [tg] e X.env = pure none := by rfl) (h1 : (assignEach [tg] X.env).map (·.2) = [assign tg X.env] := by rfl) : PS X (.Assign [tg] e pos) (tS (cfg X) W (sAsg t f)) :=
  ps_imp (ps_asg he hg hs hw h1) fun D σ H ⟨ρ, env, ro, w, hS, hE, q⟩ => by
    refine tS_seq hS hE q fun d w1 v ρ1 H1 x1 s1 e1 r1 q1 => ?_
    cases ep : t.put d env with
    | none =>
      have q2 : AfterS (cfg X) W ρ1 H1 ro (match t.put d env with
        | some env' => .go .nx env' w1
        | none => .no) D := q1
      rw [ep] at q2
      exact (show False from q2).elim
    | some env' =>
      have q2 : AfterS (cfg X) W ρ1 H1 ro (match t.put d env with
        | some env' => .go .nx env' w1
        | none => .no) D := q1
      rw [ep] at q2
      exact Tg.ok (C := cfg X) e1 r1 ep fun vs e2 => q2 _ ρ1 H1 .refl s1 e2
end
section
variable {ro w : List D} {env env' : Fx.Env} {f fa fb fc : EF} {t : Tg} {i j : Int} {g g' : D → D → M D}
theorem x_asg {d : D} {w1 : List D} (h : f env ro w = .ok d w1) (hp : t.put d env = some env') : sAsg t f env ro w = .go .nx env' w1 := by
  refine x_lift.trans ?_
  rw [h, st_ok]
  simp only [hp]
@[simp] theorem band_int : gBand (.int i) (.int j) ro w = .ok (.int (Builtin.bitAnd i j)) w := rfl
@[simp] theorem bor_int : gBor (.int i) (.int j) ro w = .ok (.int (Builtin.bitOr i j)) w := rfl
@[simp] theorem x_chain : cChain g g' fa fb fc env ro w = (fa env ro w).an fun a w1 => (fb env ro w1).an fun b w2 => (g (see ro w2 a) (see ro w2 b) ro w2).an fun z w3 => match z with
    | .bl true => (fc env ro w3).an fun c w4 => g' (see ro w4 b) (see ro w4 c) ro w4
    | .bl false => .ok (.bl false) w3
    | _ => .no := by
  show M.bind (fa env) _ ro w = _
  simp only [x_bind, x_see, an_ok]
  congr
  funext a w1
  congr
  funext b w2
  congr
  funext z w3
  cases z with
  | bl k =>
    cases k with
    | true =>
      simp only [x_bind]
      congr
    | false => rfl
  | _ => rfl
end
end Fx
/-! Terms and their types: no program in sight. -/
namespace Fx
open PySem PySem.Spec L2
inductive Trm where
  | at (n : Nat) | fn (a : Fm) (t : Trm) | call (s t : Trm) | pair (s t : Trm) | fst (t : Trm) | snd (t : Trm)
  | inl (t : Trm) (b : Fm) | inr (t : Trm) (b : Fm) | cas (s t u : Trm) | abs (t : Trm) (b : Fm)
  deriving DecidableEq
namespace Trm
def toD : Trm → D
  | .at n => .tup [.str "at", .int n]
  | .fn a t => .tup [.str "fun", a.toD, t.toD]
  | .call s t => .tup [.str "call", s.toD, t.toD]
  | .pair s t => .tup [.str "pair", s.toD, t.toD]
  | .fst t => .tup [.str "first", t.toD]
  | .snd t => .tup [.str "second", t.toD]
  | .inl t b => .tup [.str "left", t.toD, b.toD]
  | .inr t b => .tup [.str "right", t.toD, b.toD]
  | .cas s t u => .tup [.str "case", s.toD, t.toD, u.toD]
  | .abs t b => .tup [.str "absurd", t.toD, b.toD]
def tag : Trm → String
  | .at _ => "at" | .fn _ _ => "fun" | .call _ _ => "call" | .pair _ _ => "pair" | .fst _ => "first" | .snd _ => "second"
  | .inl _ _ => "left" | .inr _ _ => "right" | .cas _ _ _ => "case" | .abs _ _ => "absurd"
def ht : Trm → Nat
  | .at _ => 1
  | .fn _ t => t.ht + 1
  | .call s t => max s.ht t.ht + 1
  | .pair s t => max s.ht t.ht + 1
  | .fst t => t.ht + 1
  | .snd t => t.ht + 1
  | .inl t _ => t.ht + 1
  | .inr t _ => t.ht + 1
  | .cas s t u => max s.ht (max t.ht u.ht) + 1
  | .abs t _ => t.ht + 1
theorem ht_pos (t : Trm) : 0 < t.ht := by cases t <;> simp [ht]
/-- the types that are written in it -/
def Over (P : Str → Prop) : Trm → Prop
  | .at _ => True
  | .fn a t => a.Over P ∧ t.Over P
  | .call s t => s.Over P ∧ t.Over P
  | .pair s t => s.Over P ∧ t.Over P
  | .fst t => t.Over P
  | .snd t => t.Over P
  | .inl t b => t.Over P ∧ b.Over P
  | .inr t b => t.Over P ∧ b.Over P
  | .cas s t u => s.Over P ∧ t.Over P ∧ u.Over P
  | .abs t b => t.Over P ∧ b.Over P
def callT : Fm → Fm → Option Fm
  | .imp a b, c => if a = c then some b else none
  | _, _ => none
def fstT : Fm → Option Fm
  | .and a _ => some a
  | _ => none
def sndT : Fm → Option Fm
  | .and _ b => some b
  | _ => none
def orT : Fm → Option (Fm × Fm)
  | .or a b => some (a, b)
  | _ => none
/-- its type -/
def ty : List Fm → Trm → Option Fm
  | Γ, .at n => Γ[n]?
  | Γ, .fn a t => (ty (a :: Γ) t).map (.imp a)
  | Γ, .call s t => (ty Γ s).bind fun φ => (ty Γ t).bind fun ψ => callT φ ψ
  | Γ, .pair s t => (ty Γ s).bind fun φ => (ty Γ t).bind fun ψ => some (.and φ ψ)
  | Γ, .fst t => (ty Γ t).bind fstT
  | Γ, .snd t => (ty Γ t).bind sndT
  | Γ, .inl t b => (ty Γ t).bind fun φ => some (.or φ b)
  | Γ, .inr t b => (ty Γ t).bind fun φ => some (.or b φ)
  | Γ, .cas s t u => (ty Γ s).bind fun φ => (orT φ).bind fun p => (ty (p.1 :: Γ) t).bind fun α => (ty (p.2 :: Γ) u).bind fun β => if α = β then some α else none
  | Γ, .abs t b => (ty Γ t).bind fun φ => if φ = .fal then some b else none
/-- a bound of the heights of all types that are met -/
def tb : Nat → Trm → Nat
  | B, .at _ => B
  | B, .fn a t => 1 + max a.ht (tb (max B a.ht) t)
  | B, .call s t => max (tb B s) (tb B t)
  | B, .pair s t => 1 + max (tb B s) (tb B t)
  | B, .fst t => tb B t
  | B, .snd t => tb B t
  | B, .inl t b => 1 + max (tb B t) b.ht
  | B, .inr t b => 1 + max (tb B t) b.ht
  | B, .cas s t u => max (tb B s) (max (tb (max B (tb B s - 1)) t) (tb (max B (tb B s - 1)) u))
  | B, .abs t b => max (tb B t) b.ht
def CxOk (B : Nat) (P : Str → Prop) (Γ : List Fm) : Prop := ∀ a ∈ Γ, a.ht ≤ B ∧ a.Over P
theorem CxOk.cons {B B' : Nat} {P : Str → Prop} {Γ : List Fm} {a : Fm} (h : CxOk B P Γ) (hB : B ≤ B') (ha : a.ht ≤ B') (ho : a.Over P) : CxOk B' P (a :: Γ) := fun x hx => by
  rcases List.mem_cons.mp hx with e | hx
  · rw [e]
    exact ⟨ha, ho⟩
  · exact ⟨Nat.le_trans (h x hx).1 hB, (h x hx).2⟩
/-! lifted -/
def lift (by' : Nat) : Nat → Trm → Trm
  | k, .at n => .at (if k ≤ n then n + by' else n)
  | k, .fn a t => .fn a (lift by' (k + 1) t)
  | k, .call s t => .call (lift by' k s) (lift by' k t)
  | k, .pair s t => .pair (lift by' k s) (lift by' k t)
  | k, .fst t => .fst (lift by' k t)
  | k, .snd t => .snd (lift by' k t)
  | k, .inl t b => .inl (lift by' k t) b
  | k, .inr t b => .inr (lift by' k t) b
  | k, .cas s t u => .cas (lift by' k s) (lift by' (k + 1) t) (lift by' (k + 1) u)
  | k, .abs t b => .abs (lift by' k t) b
end Trm
end Fx
/-! Terms: a value put in; how great the types are that are met. -/
namespace Fx
open PySem PySem.Spec L2
namespace Trm
/-- the greatest type that is written in it -/
def an : Trm → Nat
  | .at _ => 0
  | .fn a t => max a.ht t.an
  | .call s t => max s.an t.an
  | .pair s t => max s.an t.an
  | .fst t => t.an
  | .snd t => t.an
  | .inl t b => max t.an b.ht
  | .inr t b => max t.an b.ht
  | .cas s t u => max s.an (max t.an u.an)
  | .abs t b => max t.an b.ht
def OkT (N : Nat) (Γ : List Fm) (t : Trm) : Prop := ∀ φ, ty Γ t = some φ → φ.ht ≤ N
/-- all types that are met have at most this height -/
def AllT (N : Nat) : List Fm → Trm → Prop
  | Γ, .at n => OkT N Γ (.at n)
  | Γ, .fn a t => OkT N Γ (.fn a t) ∧ AllT N (a :: Γ) t
  | Γ, .call s t => OkT N Γ (.call s t) ∧ AllT N Γ s ∧ AllT N Γ t
  | Γ, .pair s t => OkT N Γ (.pair s t) ∧ AllT N Γ s ∧ AllT N Γ t
  | Γ, .fst t => OkT N Γ (.fst t) ∧ AllT N Γ t
  | Γ, .snd t => OkT N Γ (.snd t) ∧ AllT N Γ t
  | Γ, .inl t b => OkT N Γ (.inl t b) ∧ AllT N Γ t
  | Γ, .inr t b => OkT N Γ (.inr t b) ∧ AllT N Γ t
  | Γ, .cas s t u => OkT N Γ (.cas s t u) ∧ AllT N Γ s ∧ ∀ p, (ty Γ s).bind orT = some p → AllT N (p.1 :: Γ) t ∧ AllT N (p.2 :: Γ) u
  | Γ, .abs t b => OkT N Γ (.abs t b) ∧ AllT N Γ t
theorem AllT.top {N : Nat} {Γ : List Fm} {t : Trm} (h : AllT N Γ t) : OkT N Γ t := by
  cases t with
  | «at» n => exact h
  | _ => exact h.1
/-! a value put in -/
def putAt (v : Trm) : Nat → Trm → Trm
  | d, .at n => if n = d then lift d 0 v else .at (if d < n then n - 1 else n)
  | d, .fn a t => .fn a (putAt v (d + 1) t)
  | d, .call s t => .call (putAt v d s) (putAt v d t)
  | d, .pair s t => .pair (putAt v d s) (putAt v d t)
  | d, .fst t => .fst (putAt v d t)
  | d, .snd t => .snd (putAt v d t)
  | d, .inl t b => .inl (putAt v d t) b
  | d, .inr t b => .inr (putAt v d t) b
  | d, .cas s t u => .cas (putAt v d s) (putAt v (d + 1) t) (putAt v (d + 1) u)
  | d, .abs t b => .abs (putAt v d t) b
/-! compared -/
theorem nb : ∀ t : Trm, t.toD.nb = true
  | .at n => rfl
  | .fn a t => by simp [toD, D.nb, D.nbs, a.nb, nb t]
  | .call s t => by simp [toD, D.nb, D.nbs, nb s, nb t]
  | .pair s t => by simp [toD, D.nb, D.nbs, nb s, nb t]
  | .fst t => by simp [toD, D.nb, D.nbs, nb t]
  | .snd t => by simp [toD, D.nb, D.nbs, nb t]
  | .inl t b => by simp [toD, D.nb, D.nbs, nb t, b.nb]
  | .inr t b => by simp [toD, D.nb, D.nbs, nb t, b.nb]
  | .cas s t u => by simp [toD, D.nb, D.nbs, nb s, nb t, nb u]
  | .abs t b => by simp [toD, D.nb, D.nbs, nb t, b.nb]
theorem lay : ∀ t : Trm, t.Over (fun x => PyData.strOk x = true) → t.toD.lay = true
  | .at n, _ => by simp [toD, D.lay, D.lays]
  | .fn a t, h => by simp [toD, D.lay, D.lays, a.lay h.1, lay t h.2]
  | .call s t, h => by simp [toD, D.lay, D.lays, lay s h.1, lay t h.2]
  | .pair s t, h => by simp [toD, D.lay, D.lays, lay s h.1, lay t h.2]
  | .fst t, h => by simp [toD, D.lay, D.lays, lay t h]
  | .snd t, h => by simp [toD, D.lay, D.lays, lay t h]
  | .inl t b, h => by simp [toD, D.lay, D.lays, lay t h.1, b.lay h.2]
  | .inr t b, h => by simp [toD, D.lay, D.lays, lay t h.1, b.lay h.2]
  | .cas s t u, h => by simp [toD, D.lay, D.lays, lay s h.1, lay t h.2.1, lay u h.2.2]
  | .abs t b, h => by simp [toD, D.lay, D.lays, lay t h.1, b.lay h.2]
theorem dp : ∀ t : Trm, t.toD.dp ≤ t.ht + t.an
  | .at n => by simp [toD, D.dp, D.dps, ht, an]
  | .fn a t => by have := dp t; have := a.dp; simp only [toD, D.dp, D.dps, ht, an]; omega
  | .call s t => by have := dp s; have := dp t; simp only [toD, D.dp, D.dps, ht, an]; omega
  | .pair s t => by have := dp s; have := dp t; simp only [toD, D.dp, D.dps, ht, an]; omega
  | .fst t => by have := dp t; simp only [toD, D.dp, D.dps, ht, an]; omega
  | .snd t => by have := dp t; simp only [toD, D.dp, D.dps, ht, an]; omega
  | .inl t b => by have := dp t; have := b.dp; simp only [toD, D.dp, D.dps, ht, an]; omega
  | .inr t b => by have := dp t; have := b.dp; simp only [toD, D.dp, D.dps, ht, an]; omega
  | .cas s t u => by have := dp s; have := dp t; have := dp u; simp only [toD, D.dp, D.dps, ht, an]; omega
  | .abs t b => by have := dp t; have := b.dp; simp only [toD, D.dp, D.dps, ht, an]; omega
theorem eqo {t : Trm} (h : t.Over (fun x => PyData.strOk x = true)) (h2 : t.ht + t.an ≤ 60) : t.toD.eqo = true := eqo_of (nb t) (lay t h) (by have := dp t; omega)
end Trm
end Fx
/-! zip of a tuple and a list. -/
namespace Fx
open PySem PySem.Spec L2 PyProof.Rows RZ
def StM (z TI TO j k a b : Addr) (n1 n2 : Nat) (i : Nat) (h : Heap) : Prop :=
  IsZip h z TI TO .none ∧ IsTupOf2 h TI (.ref j) (.ref k) ∧ (∃ x y, IsTupOf2 h TO x y) ∧ h.IsTupleIter j a i ∧ h.IsListIter k b i ∧ i ≤ n1 ∧ i ≤ n2
theorem mem5 {z TI TO j k c : Addr} (h : c ∈ [z, TI, TO, j, k]) : c = z ∨ c = TI ∨ c = TO ∨ c = j ∨ c = k := by simpa using h
theorem StM.lt {z TI TO j k a b c : Addr} {n1 n2 i : Nat} {h : Heap} (st : StM z TI TO j k a b n1 n2 i h) (hc : c ∈ [z, TI, TO, j, k]) : c < h.objs.size := by
  obtain ⟨k1, k2, ⟨x, y, k3⟩, ⟨_, k4, _⟩, ⟨_, k5, _⟩, _⟩ := st
  rcases mem5 hc with e | e | e | e | e <;> rw [e]
  · exact Heap.lt_size k1
  · exact Heap.lt_size k2
  · exact Heap.lt_size k3
  · exact Heap.lt_size k4
  · exact Heap.lt_size k5
/-! over trees -/
def gZipM : List D → M (List D)
  | [.tup ds, .lst es] => M.pure (zipD ds es)
  | _ => M.no
def cZipM (fs : Env → M (List D)) : Env → M (List D) := fun env => M.bind (fs env) gZipM
section
variable {X : Cx} {W : WX} {pos p tpos : Pos} {a b : Expr} {elts : List Expr} {kk : Nat} {fs : Env → M (List D)}
end
section
variable {ro w : List D} {env : Env} {fs : Env → M (List D)}
@[simp] theorem x_zipM : cZipM fs env ro w = (fs env ro w).an fun ds w1 => gZipM ds ro w1 := by
  show M.bind (fs env) _ ro w = _
  simp
@[simp] theorem zipM_lst {ds es : List D} : gZipM [.tup ds, .lst es] ro w = .ok (zipD ds es) w := rfl
end
end Fx
/-! enumerate over a list. -/
namespace Fx
open PySem PySem.Spec L2 PyProof.Rows RZ
def enumD (ds : List D) : List D := ds.mapIdx fun (i : Nat) d => .tup [.int (i : Int), d]
def gEnum : List D → M (List D)
  | [.lst es] => M.pure (enumD es)
  | _ => M.no
def cEnum (fs : Env → M (List D)) : Env → M (List D) := fun env => M.bind (fs env) gEnum
section
variable {X : Cx} {W : WX} {pos p tpos : Pos} {a : Expr} {elts : List Expr} {kk : Nat} {fs : Env → M (List D)}
end
section
variable {ro w : List D} {env : Env} {fs : Env → M (List D)}
@[simp] theorem x_enum : cEnum fs env ro w = (fs env ro w).an fun ds w1 => gEnum ds ro w1 := by
  show M.bind (fs env) _ ro w = _
  simp
@[simp] theorem enum_lst {es : List D} : gEnum [.lst es] ro w = .ok (enumD es) w := rfl
end
end Fx
/-! Steps of terms: no program in sight. -/
namespace Fx
open PySem PySem.Spec L2
namespace Trm
/-- the term that a redex at the top becomes -/
def con : Trm → Option Trm
  | .call (.fn _ t) s => some (putAt s 0 t)
  | .fst (.pair s _) => some s
  | .snd (.pair _ t) => some t
  | .cas (.inl s _) t _ => some (putAt s 0 t)
  | .cas (.inr s _) _ u => some (putAt s 0 u)
  | _ => none
structure Good (N : Nat) (P : Str → Prop) (Γ : List Fm) (t t' : Trm) : Prop where
  ty : ty Γ t' = ty Γ t
  al : AllT N Γ t'
  ov : t'.Over P
  ht : t'.ht ≤ 2 * t.ht
  an : t'.an ≤ t.an
end Trm
end Fx
/-! Terms whose calls are all of written functions: reductions end, and they end at one term. No program in sight. -/
namespace Fx
open PySem PySem.Spec L2
namespace Trm
def LF : Trm → Prop
  | .at _ => True
  | .fn _ t => LF t
  | .call (.fn _ b) s => LF b ∧ LF s
  | .call _ _ => False
  | .pair s t => LF s ∧ LF t
  | .fst t => LF t
  | .snd t => LF t
  | .inl t _ => LF t
  | .inr t _ => LF t
  | .cas s t u => LF s ∧ LF t ∧ LF u
  | .abs t _ => LF t
/-! ### environments -/
section
variable {α : Type}
def cn (x : α) (ρ : Nat → α) : Nat → α
  | 0 => x
  | n + 1 => ρ n
def le (j k : Nat) (ρ : Nat → α) : Nat → α := fun n => if k ≤ n then ρ (n + j) else ρ n
def pe (d : Nat) (v : α) (ρ : Nat → α) : Nat → α := fun n => if n = d then v else if d < n then ρ (n - 1) else ρ n
theorem le_succ {d : Nat} {x : α} {ρ : Nat → α} : le (d + 1) 0 (cn x ρ) = le d 0 ρ := by
  funext n
  have e : n + (d + 1) = (n + d) + 1 := by omega
  simp only [le, Nat.zero_le, if_true]
  rw [e]
  rfl
end
/-! ### sizes: f says how parts are taken together -/
def I (f : Nat → Nat → Nat) : Trm → (Nat → Nat) → Nat
  | .at n, ρ => ρ n
  | .fn _ b, ρ => 1 + I f b (cn 1 ρ)
  | .call (.fn _ b) s, ρ => 2 + f (I f b (cn (I f s ρ) ρ)) (I f s ρ)
  | .call _ _, _ => 0
  | .pair s t, ρ => 1 + f (I f s ρ) (I f t ρ)
  | .fst t, ρ => 1 + I f t ρ
  | .snd t, ρ => 1 + I f t ρ
  | .inl t _, ρ => 1 + I f t ρ
  | .inr t _, ρ => 1 + I f t ρ
  | .cas s t u, ρ => 1 + f (I f s ρ) (f (I f t (cn (I f s ρ) ρ)) (I f u (cn (I f s ρ) ρ)))
  | .abs t _, ρ => 1 + I f t ρ
/-- f grows with its parts, and is at least each of them -/
structure Gr (f : Nat → Nat → Nat) : Prop where
  mono : ∀ a b c d, a ≤ c → b ≤ d → f a b ≤ f c d
  l : ∀ a b, a ≤ f a b
  r : ∀ a b, b ≤ f a b
/-! ### steps -/
inductive Red : Trm → Trm → Prop where
  | con {t t' : Trm} : con t = some t' → Red t t'
  | fn {a : Fm} {t t' : Trm} : Red t t' → Red (.fn a t) (.fn a t')
  | callf {a : Fm} {b b' s : Trm} : Red b b' → Red (.call (.fn a b) s) (.call (.fn a b') s)
  | callr {s t t' : Trm} : Red t t' → Red (.call s t) (.call s t')
  | pairl {s s' t : Trm} : Red s s' → Red (.pair s t) (.pair s' t)
  | pairr {s t t' : Trm} : Red t t' → Red (.pair s t) (.pair s t')
  | fst {t t' : Trm} : Red t t' → Red (.fst t) (.fst t')
  | snd {t t' : Trm} : Red t t' → Red (.snd t) (.snd t')
  | inl {t t' : Trm} {b : Fm} : Red t t' → Red (.inl t b) (.inl t' b)
  | inr {t t' : Trm} {b : Fm} : Red t t' → Red (.inr t b) (.inr t' b)
  | cass {s s' t u : Trm} : Red s s' → Red (.cas s t u) (.cas s' t u)
  | cast {s t t' u : Trm} : Red t t' → Red (.cas s t u) (.cas s t' u)
  | casu {s t u u' : Trm} : Red u u' → Red (.cas s t u) (.cas s t u')
  | abs {t t' : Trm} {b : Fm} : Red t t' → Red (.abs t b) (.abs t' b)
/-! ### the one normal term -/
def mf : Trm → Trm
  | .pair a _ => a
  | t => .fst t
def ms : Trm → Trm
  | .pair _ b => b
  | t => .snd t
def sh (ρ : Nat → Trm) : Nat → Trm := cn (.at 0) fun n => lift 1 0 (ρ n)
/-! ### the two ways to step -/
def ins : Trm → Option Trm
  | .at _ => none
  | .fn a t => (ins t).map (.fn a)
  | .call s t => match ins t with
    | some x => some (.call s x)
    | none => match ins s with
      | some x => some (.call x t)
      | none => con (.call s t)
  | .pair s t => match ins t with
    | some x => some (.pair s x)
    | none => (ins s).map (.pair · t)
  | .fst t => match ins t with
    | some x => some (.fst x)
    | none => con (.fst t)
  | .snd t => match ins t with
    | some x => some (.snd x)
    | none => con (.snd t)
  | .inl t b => (ins t).map (.inl · b)
  | .inr t b => (ins t).map (.inr · b)
  | .cas s t u => match ins u with
    | some x => some (.cas s t x)
    | none => match ins t with
      | some x => some (.cas s x u)
      | none => match ins s with
        | some x => some (.cas x t u)
        | none => con (.cas s t u)
  | .abs t b => (ins t).map (.abs · b)
/-! ### many steps -/
inductive Reds : Trm → Trm → Prop where
  | refl {t : Trm} : Reds t t
  | tail {s t u : Trm} : Reds s t → Red t u → Reds s u
end Trm
end Fx
/-! xs[::-1] of a list. -/
namespace Fx
open PySem PySem.Spec L2 PyProof.Rows RZ
def gSlR (x : D) (o : Option Int) : M D := match x, o with
  | .lst ds, some (-1) => M.pure (.lst ds.reverse)
  | _, _ => M.no
def cSlR (f : EF) (st : Env → M (Option Int)) : EF := fun env => M.bind (f env) fun d => M.bind (st env) fun i => M.bind (M.see d) fun d' => gSlR d' i
section
variable {X : Cx} {W : WX} {a : Expr} {st : Option Expr} {fa : EF} {fs : Env → M (Option Int)} {pos p2 : Pos}
end
section
variable {ro w : List D} {env : Env} {fa : EF} {fs : Env → M (Option Int)}
@[simp] theorem x_slR : cSlR fa fs env ro w = (fa env ro w).an fun d w1 => (fs env ro w1).an fun i w2 => gSlR (see ro w2 d) i ro w2 := by
  show M.bind (fa env) _ ro w = _
  simp
@[simp] theorem slR_lst {ds : List D} : gSlR (.lst ds) (some (-1)) ro w = .ok (.lst ds.reverse) w := rfl
end
end Fx
/-! How great a drawn term can become. -/
namespace Fx
open PySem PySem.Spec L2
namespace Trm
def cs : Nat → Nat
  | 0 => 2
  | d + 1 => 7 + 5 * cs d + cs d * cs d
def cl : Nat → Nat
  | 0 => 1
  | d + 1 => 2 * cl d + 4
end Trm
end Fx
/-! set(xs): of whole numbers, of pairs. -/
namespace Fx
open PySem PySem.Spec L2 PyProof.Rows
section
variable {P : Program} {w : World} {A : Around} {E : Value → Shared → Prop} {s : Shared}
set_option maxHeartbeats 3200000

end
section
variable {P : Program} {w : World} {A : Around} {E : Value → Shared → Prop} {s : Shared}
end
section
variable {X : Cx}
end
end Fx
/-! sorted(set(xs)). -/
namespace Fx
open PySem PySem.Spec L2 PyProof.Rows
/-! ### ascending, each once -/
section
variable {α : Type} {f : α → Int}
def insK (f : α → Int) (x : α) : List α → List α
  | [] => [x]
  | y :: l => if f x < f y then x :: y :: l else if f x = f y then y :: l else y :: insK f x l
def setK (f : α → Int) (l : List α) : List α := l.foldr (insK f) []
end
/-! ### the rule -/
section
variable {X : Cx} {W : WX}
theorem reps_maps {C : Cfg} {ρ : Zn} {H : Hp} {α : Type} {f : α → D} {g : α → V} : ∀ {l : List α}, (∀ x ∈ l, Rep C ρ H (f x) (g x)) → Reps C ρ H (l.map f) (l.map g)
  | [], _ => rfl
  | x :: l, h => ⟨_, _, rfl, h x (by simp), reps_maps fun y hy => h y (List.mem_cons_of_mem _ hy)⟩
end
end Fx
/-! Dict comprehensions over an attribute's dict; list(range(n)). -/
namespace Fx
open PySem PySem.Spec L2
/-! ### a hidden object comes forth, and may change -/
/-! ### a dict comprehension -/
section
variable {X : Cx} {C : Cfg} {W : WX} {σ : L2.St} {ρ : Zn} {H : Hp} {ro w : List D}
end
section
variable {X : Cx} {W : WX} {pos p pos' : Pos} {kx vx tg iter : Expr} {ifs : List Expr} {scope : Scope} {own : List (Str × Nat)} {it : Env → M (List D)} {fk fv : EF} {t : Tg} {x c f : Str} {fs : List Str} {σ : L2.St} {H : Hp} {ρ : Zn}
/-! ### the keys of an attribute -/
end
/-! ### list(range(n)) -/
section
variable {X : Cx} {W : WX} {pos p p2 pos2 : Pos} {a : Expr} {fa : EF}
end
section
variable {fa fo : EF} {env : Env} {ro w : List D} {t : Tg} {own : List Nat} {fk fv : EF} {c f : Str} {i : Nat}
end
end Fx
/-! What an own class's __init__ does; a walk over the keys of a dict within a tuple. -/
namespace Fx
open PySem PySem.Spec L2
structure InitOk (P : Program) (w : World) (K : PySem.W.Frag) (mg : Str → Option Value) (base : Heap) (n : Nat) (c : Str) (g : List D → M D) (np : Nat) : Prop where
  ex : ∃ (A f : Addr) (fd : FuncData) (ps : List Str), mg c = some (.ref A) ∧ Mk K A f ∧ Binds K fd ps [] ∧ FnOk P w K mg base (L2.CX P w) n f fd ps (spF ⟨K, mg, w⟩ g (np + 1))
section
variable {X : Cx} {W : WX} {pos p p2 pos' : Pos} {tg iter : Expr} {t : Tg} {x c f : Str} {σ : L2.St} {H : Hp} {ρ : Zn}
theorem atI_some {α : Type} {l : List α} {k : Nat} {v : α} (h : l[k]? = some v) : L2.atI l (k : Int) = some v := by
  have hl := (List.getElem?_eq_some_iff.mp h).1
  unfold L2.atI L2.ixN
  simp [hl]
  exact (List.getElem?_eq_some_iff.mp h).2
end
end Fx
/-! Models: what the program's own functions do. -/
namespace Fx
open PySem PySem.Spec L2
/-! ### plain -/
/-- worlds, what sees what, where each name is true -/
structure Mo where
  n : Nat
  s : Nat → Nat → Bool
  v : List (Str × List Nat)
namespace Mo
def at' (M : Mo) (x : Str) : List Nat := (M.v.lookup x).getD []
def sem (M : Mo) (F : Bool) : Fm → Nat → Bool
  | .fal, _ => false
  | .var x, w => (M.at' x).contains w
  | .and a b, w => M.sem F a w && M.sem F b w
  | .or a b, w => M.sem F a w || M.sem F b w
  | .imp a b, w => if F then (List.range M.n).all fun u => !(M.s w u && (M.sem F a u && !M.sem F b u)) else !(M.sem F a w && !M.sem F b w)
  | .box a, w => (List.range M.n).all fun u => !(M.s w u && !M.sem F a u)
structure Ok (M : Mo) : Prop where
  pos : 0 < M.n
  few : M.n < 25
  names : ∀ p ∈ M.v, PyData.strOk p.1 = true
  nd : (M.v.map (·.1)).Nodup
  asc : ∀ p ∈ M.v, p.2.Pairwise (· < ·) ∧ ∀ w ∈ p.2, w < M.n
  short : M.v.length < 100
end Mo
abbrev nD (i : Nat) : D := .int i
abbrev nsD (l : List Nat) : D := .lst (l.map nD)
def vD (v : List (Str × List Nat)) : D := .dic (v.map fun p => .str p.1) (v.map fun p => nsD p.2)
namespace Mo
def row (M : Mo) (i : Nat) : List Nat := (List.range M.n).filter (M.s i)
def pairs (M : Mo) : List (Nat × Nat) := (List.range M.n).flatMap fun i => (M.row i).map fun j => (i, j)
end Mo
def prD (p : Nat × Nat) : D := .tup [.int p.1, .int p.2]
namespace Mo
def frD (M : Mo) : D := .tup [.int M.n, .tup (M.pairs.map prD)]
def kept (M : Mo) : List (Str × List Nat) := M.v.filter fun p => !p.2.isEmpty
end Mo
section
variable {ro w : List D} {env : Env}
end
end Fx
/-! Models: a new one. -/
namespace Fx
open PySem PySem.Spec L2
section
variable {ro w : List D} {env : Env}
theorem see_at {k : Nat} {d : D} (h : w[k]? = some d) : see ro w (.ref (ro.length + k)) = d := by
  rw [see_ref, List.getElem?_append_right (by omega), Nat.add_sub_cancel_left, h]
  rfl
theorem append_at {n : Nat} {d : D} {ds : List D} (h : w[n]? = some (.lst ds)) (hl : ds.length < sizeLine) : gAppend [d] (.ref (ro.length + n)) ro w = .ok .non (w.set n (.lst (ds ++ [d]))) := by
  unfold gAppend
  have := mod_at (ro := ro) (w := w) (n := ro.length + n) (ds := ds) (f := fun es => if es.length < sizeLine then some (.non, es ++ [d]) else none) (d := .non) (ds' := ds ++ [d]) (by omega) (by rw [Nat.add_sub_cancel_left]; exact h) (by simp [hl])
  rw [Nat.add_sub_cancel_left] at this
  exact this
end
/-! ### the values -/
def srt (l : List Nat) : List Nat := setK (fun i : Nat => (i : Int)) l
/-! ### the whole -/
def frD (n : Nat) (l : List (Nat × Nat)) : D := .tup [.int n, .tup (l.map prD)]
structure ValsOk (n : Nat) (v : List (Str × List Nat)) : Prop where
  nd : (v.map (·.1)).Nodup
  rng : ∀ p ∈ v, (∀ i ∈ p.2, i < n) ∧ p.2.length < 64
  few : v.length < 1000
/-! ### told -/
end Fx
/-! Models: their methods, the worlds at which a formula is true. -/
namespace Fx
open PySem PySem.Spec L2
namespace Mo
variable {A : Mo}
structure Good (A : Mo) : Prop where
  pos : 0 < A.n
  few : A.n < 25
  nd : (A.v.map (·.1)).Nodup
  asc : ∀ p ∈ A.v, p.2.Pairwise (· < ·) ∧ ∀ w ∈ p.2, w < A.n
  short : A.v.length < 100
  prs : A.pairs.length < 64
def progD (A : Mo) : D := .ins "Model" ["_frame", "_seen", "_values"] [A.frD, .lst ((List.range A.n).map fun i => nsD (A.row i)), vD A.kept]
end Mo
section
variable {ro w : List D} {env : Env}
@[simp] theorem see_insD {c : Str} {ns : List Str} {xs : List D} : see ro w (.ins c ns xs) = .ins c ns xs := rfl
end
end Fx
/-! Models: the worlds at which a formula is true. -/
namespace Fx
open PySem PySem.Spec L2
abbrev SOk (x : Str) : Prop := PyData.strOk x = true
section
variable {ro w : List D} {env : Env} {A : Mo}
end
/-! ### where a name is true -/
end Fx
/-! Models: what the law says of them. -/
namespace Fx
open PySem PySem.Spec L2
section
variable {ro w : List D} {env : Env} {A : Mo}
/-! ### where -/
/-! ### the program's form of it -/
def gridL (n m : Nat) : List (Nat × Nat) := (List.range n).flatMap fun i => (List.range m).map fun j => (i, j)
end
end Fx
/-! Models: how the law draws them. -/
namespace Fx
open PySem PySem.Spec L2
section
variable {ro w : List D} {env : Env}
theorem put_at {n : Nat} {k : Int} {v : D} {ds : List D} {j : Nat} (h : w[n]? = some (.lst ds)) (hj : L2.ixN ds.length k = some j) : gPut v (.ref (ro.length + n)) (.int k) ro w = .ok .non (w.set n (.lst (ds.set j v))) := by
  unfold gPut mMod
  simp [h, hj]
abbrev bD (bs : List Bool) : D := .lst (bs.map .bl)
structure Sq (n : Nat) (bss : List (List Bool)) : Prop where
  len : bss.length = n
  all : ∀ bs ∈ bss, bs.length = n
theorem Sq.at {n : Nat} {bss : List (List Bool)} (h : Sq n bss) {i j : Nat} (hi : i < n) (hj : j < n) : ∃ bs b, bss[i]? = some bs ∧ bs.length = n ∧ bs[j]? = some b := by
  have hl := h.len
  have h1 : bss[i]? = some (bss[i]'(by omega)) := List.getElem?_eq_getElem (by omega)
  have h2 := h.all _ (List.mem_of_getElem? h1)
  exact ⟨_, _, h1, h2, List.getElem?_eq_getElem (by omega)⟩
theorem Sq.put {n : Nat} {bss : List (List Bool)} (h : Sq n bss) {i j : Nat} {bs : List Bool} {b : Bool} (hb : bss[i]? = some bs) : Sq n (bss.set i (bs.set j b)) :=
  ⟨by rw [List.length_set]; exact h.len, fun x hx => by
    rcases List.mem_or_eq_of_mem_set hx with hx | hx
    · exact h.all x hx
    · subst hx
      rw [List.length_set]
      exact h.all _ (List.mem_of_getElem? hb)⟩
/-- rows that may change, behind them the list of them -/
def cW (b n : Nat) (bss : List (List Bool)) : List D := bss.map bD ++ [.lst ((List.range n).map fun i => .ref (b + i))]
theorem cW_refs {b n : Nat} {bss : List (List Bool)} (h : Sq n bss) : (cW b n bss)[n]? = some (.lst ((List.range n).map fun i => .ref (b + i))) := by
  unfold cW
  rw [List.getElem?_append_right (by simp [h.len])]
  simp [h.len]
theorem cW_row {b n i : Nat} {bss : List (List Bool)} (h : Sq n bss) (hi : i < n) {bs : List Bool} (hb : bss[i]? = some bs) : (cW b n bss)[i]? = some (bD bs) := by
  unfold cW
  rw [List.getElem?_append_left (by simp [h.len, hi]), List.getElem?_map, hb]
  rfl
theorem cW_set {b n i : Nat} {bss : List (List Bool)} (h : Sq n bss) (hi : i < n) {bs : List Bool} : (cW b n bss).set i (bD bs) = cW b n (bss.set i bs) := by
  unfold cW
  rw [List.set_append_left _ _ (by simp [h.len, hi]), List.map_set]
/-- pairs[a] -/
theorem rd1 {n i a : Nat} {bss : List (List Bool)} (h : Sq n bss) (hi : i < n) (h3 : env[3]? = some (some (.ref (ro.length + n)))) (ha : env[a]? = some (some (nD i))) : cBin gIx (cVar 3) (cVar a) env ro (cW ro.length n bss) = .ok (.ref (ro.length + i)) (cW ro.length n bss) := by
  rw [x_bin]
  simp only [x_var, h3, ha, ofO_ss, an_ok, see_at (cW_refs h), see_int, ix_lst, atI_nat]
  simp [hi]
theorem rd2 {n i j a c : Nat} {bss : List (List Bool)} (h : Sq n bss) (hi : i < n) (hj : j < n) (h3 : env[3]? = some (some (.ref (ro.length + n)))) (ha : env[a]? = some (some (nD i))) (hc : env[c]? = some (some (nD j))) :
    ∃ b, cBin gIx (cBin gIx (cVar 3) (cVar a)) (cVar c) env ro (cW ro.length n bss) = .ok (.bl b) (cW ro.length n bss) := by
  obtain ⟨bs, b, h1, h2, h4⟩ := h.at hi hj
  refine ⟨b, ?_⟩
  rw [x_bin, rd1 h hi h3 ha]
  simp only [x_var, hc, ofO_ss, an_ok, see_at (cW_row h hi h1), see_int, ix_lst, atI_nat]
  simp [h4]
theorem wr {n i j a c : Nat} {fv : EF} {b : Bool} {bss : List (List Bool)} (h : Sq n bss) (hi : i < n) (hj : j < n) (h3 : env[3]? = some (some (.ref (ro.length + n)))) (ha : env[a]? = some (some (nD i))) (hc : env[c]? = some (some (nD j))) (hv : fv env ro (cW ro.length n bss) = .ok (.bl b) (cW ro.length n bss)) :
    ∃ bss', sPut (cBin gIx (cVar 3) (cVar a)) (cVar c) fv env ro (cW ro.length n bss) = .go .nx env (cW ro.length n bss') ∧ Sq n bss' := by
  obtain ⟨bs, b0, h1, h2, h4⟩ := h.at hi hj
  refine ⟨bss.set i (bs.set j b), ?_, h.put h1⟩
  have p := put_at (ro := ro) (w := cW ro.length n bss) (n := i) (k := (j : Int)) (v := .bl b) (ds := bs.map .bl) (j := j) (cW_row h hi h1) (by rw [ixN_nat]; simp [h2, hj])
  rw [x_put, hv]
  simp only [st_ok, rd1 h hi h3 ha, x_var, hc, ofO_ss, p]
  rw [show D.lst ((bs.map D.bl).set j (.bl b)) = bD (bs.set j b) from by unfold bD; rw [List.map_set], cW_set h hi]
end
end Fx
/-! Models: how the law draws them, continued. -/
namespace Fx
open PySem PySem.Spec L2
def sRow : SF := (sSeq (sSet 11 (cComp (.nm 15) [15] (cRng1 (cArgs [cVar 4])) (cYes) (cBin gEq (cBin gBand (cBin gShr (cVar 5) (cBin gAdd (cBin gMul (cVar 8) (cVar 4)) (cVar 15))) (cK (.int 1))) (cK (.int 1))) kStill))
  (sSeq (sIf (cTest (cBin gIn (cVar 1) (cTup (cArgs [cK (.str "GL"), cK (.str "Grz"), cK (.str "Int"), cK (.str "KC"), cK (.str "LC"), cK (.str "BD2"), cK (.str "HT"), cK (.str "Cl")])))) (sSet 11 (cComp (.nm 15) [15] (cRng1 (cArgs [cVar 4])) (cYes) (cAnd (cBin gIx (cVar 11) (cVar 15)) (cBin gLt (cVar 8) (cVar 15))) kStill)) (sNil))
  (sSeq (sIf (cTest (cBin gIn (cVar 1) (cTup (cArgs [cK (.str "LC"), cK (.str "HT")])))) (sSet 11 (cComp (.nm 15) [15] (cRng1 (cArgs [cVar 4])) (cYes) (cBin gLt (cVar 8) (cVar 15)) kStill)) (sNil))
  (sSeq (sIf (cTest (cBin gIn (cVar 1) (cTup (cArgs [cK (.str "KC")])))) (sSet 11 (cComp (.nm 15) [15] (cRng1 (cArgs [cVar 4])) (cYes) (cOr (cBin gIx (cVar 11) (cVar 15)) (cAnd (cBin gEq (cVar 15) (cBin gSub (cVar 4) (cK (.int 1)))) (cBin gLt (cVar 8) (cVar 15)))) kStill)) (sNil))
  (sSeq (sIf (cTest (cBin gIn (cVar 1) (cTup (cArgs [cK (.str "BD2")])))) (sSet 11 (cComp (.nm 15) [15] (cRng1 (cArgs [cVar 4])) (cYes) (cAnd (cBin gIx (cVar 11) (cVar 15)) (cChain gLt gLe (cVar 8) (cBin gDiv (cVar 4) (cK (.int 2))) (cVar 15))) kStill)) (sNil))
  (sSeq (sIf (cTest (cBin gEq (cVar 1) (cK (.str "Cl")))) (sSet 11 (cBin gMulF (cLst (cArgs [cK (.bl false)])) (cVar 4))) (sNil))
  (sExpr (cMl gAppend (cVar 7) (cArgs [cVar 11])))))))))
def sPqr : SF := (sSeq (sSet 12 (cBin gIx (cK (.str "pqr")) (cVar 10)))
  (sSeq (sSet 13 (cK (.int 0)))
  (sSeq (sIf (cTest (cBin gGt (cCall (one gLen) (cArgs [cVar 0])) (cBin gAdd (cK (.int 3)) (cVar 10)))) (sSet 13 (cBin gMod (cCall (one gInt) (cArgs [cBin gIx (cVar 0) (cBin gAdd (cK (.int 3)) (cVar 10))])) (cBin gShl (cK (.int 1)) (cVar 4)))) (sNil))
  (sSeq (sSet 14 (cComp (.nm 15) [15] (cRng1 (cArgs [cVar 4])) (cTest (cBin gEq (cBin gBand (cBin gShr (cVar 13) (cVar 15)) (cK (.int 1))) (cK (.int 1)))) (cVar 15) kStill))
  (sSeq (sIf (cTest (cBin gIn (cVar 1) (cTup (cArgs [cK (.str "Int"), cK (.str "KC"), cK (.str "LC"), cK (.str "BD2"), cK (.str "HT"), cK (.str "Cl")])))) (sSet 14 (cComp (.nm 15) [15] (cRng1 (cArgs [cVar 4])) (cTest (cBin gIn (cK (.bl true)) (cComp (.nm 8) [8] (cSeq (cVar 14)) (cYes) (cBin gIx (cBin gIx (cVar 7) (cVar 8)) (cVar 15)) kStill))) (cVar 15) kStill)) (sNil))
  (sDPutF (cVar 9) (cVar 12) (cVar 14)))))))
section
variable {ro w : List D} {env : Env}
/-- the env of _law_model while a row is made -/
def rE (x : Str) (n : Nat) (bi : Int) (b v : Nat) (a : Nat → Option D) (e11 : Option D) : Env := [a 0, some (.str x), a 2, a 3, some (nD n), some (.int bi), a 6, some (.ref b), some (nD v), a 9, a 10, e11, a 12, a 13, a 14, none]
end
def hM (c_law_closed : List D → M D) : SF :=
  sSeq (sSet 3 (cK (.int 0)))
  (sSeq (sIf (cTest (cBin gNe (cVar 0) (cLst (cArgs [])))) (sSet 3 (cCall (one gInt) (cArgs [cBin gIx (cVar 0) (cK (.int 0))]))) (sNil))
  (sSeq (sSet 4 (cBin gAdd (cK (.int 1)) (cBin gMod (cVar 3) (cVar 2))))
  (sSeq (sSet 5 (cBin gDiv (cVar 3) (cK (.int 8))))
  (sSeq (sFor (.nm 6) (cSeq (cSl (cVar 0) (cPart (cK (.int 1))) (cPart (cK (.int 3))))) (sSet 5 (cBin gAdd (cBin gMul (cVar 5) (cK (.int 4096))) (cCall (one gInt) (cArgs [cVar 6])))))
  (sSeq (sTell (sSeq (sSet 7 (cLstM (cArgs []))) (sFor (.nm 8) (cRng1 (cArgs [cVar 4])) sRow)))
  (sSeq (sIf (cAndT (cTest (cBin gEq (cVar 1) (cK (.str "HT")))) (cTest (cBin gGt (cVar 4) (cK (.int 2))))) (sSet 7 (cComp (.nm 8) [8] (cRng1 (cArgs [cVar 4])) (cYes) (cComp (.nm 15) [15] (cRng1 (cArgs [cVar 4])) (cYes) (cAnd (cBin gLt (cVar 8) (cVar 15)) (cBin gEq (cBin gDiv (cVar 8) (cK (.int 2))) (cBin gDiv (cVar 15) (cK (.int 2))))) kStill) kStill)) (sNil))
  (sSeq (sSet 7 (cCall (fun ds => if ds.length = 2 then c_law_closed ds else M.no) (cArgs [cVar 7, cVar 1])))
  (sSeq (sSet 9 (cDNew))
  (sSeq (sFor (.nm 10) (cRng1 (cArgs [cK (.int 3)])) sPqr)
  (sRet (cTup (cArgs [cVar 7, cVar 9]))))))))))))

section
variable {ro w : List D} {env : Env}
/-! ### the values -/
/-! ### the whole -/
/-- a drawn model: three names -/
structure Drawn (most : Nat) (A : Mo) : Prop where
  good : A.Good
  most : A.n ≤ most
  names : A.v.map (·.1) = (["p", "q", "r"] : List Str)
end
end Fx
/-! Models: any model that the law draws. -/
namespace Fx
open PySem PySem.Spec L2
section
variable {env : Env} {r : List D}
def nameL : List Str := ["K", "D", "T", "K4", "D4", "S4", "S5", "GL", "Grz", "Int", "KC", "LC", "BD2", "HT", "Cl"]
end
end Fx
/-! Models of the intermediate logics: what the law's drawing gives. -/
namespace Fx
open PySem PySem.Spec L2
/-- what the law asks of the name of an intermediate logic -/
structure IntX (x : Str) : Prop where
  ok : SOk x
  c1 : ([.str "K", .str "D", .str "K4", .str "D4", .str "GL"] : List D).any (fun d => d.eqs (.str x)) = false
  c2 : x ≠ "S5"
  c3 : ([.str "D", .str "D4"] : List D).any (fun d => d.eqs (.str x)) = false
  c4 : ([.str "K", .str "D", .str "T"] : List D).any (fun d => d.eqs (.str x)) = false
  c5 : ([.str "Int", .str "KC", .str "LC", .str "BD2", .str "HT", .str "Cl"] : List D).any (fun d => d.eqs (.str x)) = true
def intL : List Str := ["Int", "KC", "LC", "BD2", "HT", "Cl"]
section
variable {ro w : List D} {env : Env}
end
section
variable {ro w : List D} {env : Env}
end
end Fx
/-! Models of the intermediate logics, continued. -/
namespace Fx
open PySem PySem.Spec L2
/-- reflexive, transitive, what is true stays true -/
structure IntM (A : Mo) : Prop where
  refl : ∀ v, v < A.n → A.s v v = true
  trans : ∀ u v w, u < A.n → v < A.n → w < A.n → A.s u v = true → A.s v w = true → A.s u w = true
  pers : ∀ p ∈ A.v, ∀ i ∈ p.2, ∀ j, j < A.n → A.s i j = true → j ∈ p.2
section
variable {ro w : List D} {env : Env}
end
end Fx
/-! What is forced stays; forcing is truth of the translation. -/
namespace Fx
open PySem PySem.Spec L2
namespace Mo
variable {A : Mo}
theorem imp_iff {a b : Fm} {w : Nat} : A.sem true (.imp a b) w = true ↔ ∀ u, u < A.n → A.s w u = true → A.sem true a u = true → A.sem true b u = true := by
  show ((List.range A.n).all fun u => !(A.s w u && (A.sem true a u && !A.sem true b u))) = true ↔ _
  rw [List.all_eq_true]
  constructor
  · intro h u hu hs ha
    have := h u (List.mem_range.mpr hu)
    simpa [hs, ha] using this
  · intro h u hu
    have := h u (List.mem_range.mp hu)
    by_cases c1 : A.s w u = true <;> by_cases c2 : A.sem true a u = true
    · simp [c1, c2, this c1 c2]
    · simp [c2]
    · simp [c1]
    · simp [c1]
/-- a world that sees itself alone -/
theorem alone (φ : Fm) (hp : φ.plain = true) {v : Nat} (hv : v < A.n) (h : ∀ u, u < A.n → (A.s v u = true ↔ u = v)) : A.sem true φ v = A.sem false φ v := by
  induction φ with
  | fal => rfl
  | var x => rfl
  | and a b iha ihb =>
    simp only [Fm.plain, Bool.and_eq_true] at hp
    simp only [Mo.sem, iha hp.1, ihb hp.2]
  | or a b iha ihb =>
    simp only [Fm.plain, Bool.and_eq_true] at hp
    simp only [Mo.sem, iha hp.1, ihb hp.2]
  | imp a b iha ihb =>
    simp only [Fm.plain, Bool.and_eq_true] at hp
    rw [Bool.eq_iff_iff, imp_iff]
    have e : A.sem false (.imp a b) v = !(A.sem false a v && !A.sem false b v) := rfl
    rw [e, ← iha hp.1, ← ihb hp.2]
    constructor
    · intro k
      have := k v hv ((h v hv).mpr rfl)
      cases q : A.sem true a v with
      | false => rfl
      | true => simp [this q]
    · intro k u hu hs ha
      have := (h u hu).mp hs
      subst this
      simp only [ha, Bool.true_and, Bool.not_not] at k
      exact k
  | box a _ => simp [Fm.plain] at hp
end Mo
end Fx
/-! Formulas put for variables; telling. -/
namespace Fx
open PySem PySem.Spec L2
/-! ### telling -/
/-! ### a drawn formula, and what is left behind -/
/-! ### formulas for variables -/
abbrev FV := List (Str × Fm)
def sb (v : FV) : Fm → Fm
  | .var x => (v.lookup x).getD (.var x)
  | .fal => .fal
  | .imp a b => .imp (sb v a) (sb v b)
  | .and a b => .and (sb v a) (sb v b)
  | .or a b => .or (sb v a) (sb v b)
  | .box a => .box (sb v a)
/-! ### the model of the instances -/
/-! ### dict == dict -/
end Fx
/-! Three statements told. -/
namespace Fx
open PySem PySem.Spec L2
section
variable {X : Cx} {W : WX} {rest : List Stmt} {t : SF}
end
end Fx
/-! Two models side by side. -/
namespace Fx
open PySem PySem.Spec L2
namespace Mo
variable {A B : Mo}
end Mo
end Fx
/-! Each once; two models side by side: the walk. -/
namespace Fx
open PySem PySem.Spec L2 PyProof.Rows PySem.W
theorem eqo_list {α : Type} (S : Sk α) {l : List α} (h1 : ∀ a ∈ l, (S.f a).lay = true) (h2 : ∀ a ∈ l, (S.f a).dp ≤ 63) : (D.lst (l.map S.f)).eqo = true := by
  have g : ∀ d ∈ l.map S.f, d.nb = true ∧ d.lay = true ∧ d.dp ≤ 63 := fun d hd => by
    obtain ⟨a, ha, rfl⟩ := List.mem_map.mp hd
    exact ⟨S.nb a, h1 a ha, h2 a ha⟩
  refine eqo_of ?_ ?_ ?_
  · simp only [D.nb]
    exact nbs_iff.mpr fun d hd => (g d hd).1
  · simp only [D.lay]
    exact lays_iff.mpr fun d hd => (g d hd).2.1
  · simp only [D.dp]
    have : D.dps (l.map S.f) ≤ 63 := dps_iff.mpr fun d hd => (g d hd).2.2
    omega
/-! ### numbers -/
theorem nD_inj (a b : Nat) (h : nD a = nD b) : a = b := by
  have : (a : Int) = b := D.int.inj h
  omega
def natS : Sk Nat := ⟨nD, nD_inj, fun _ => rfl, fun _ _ => rfl, fun _ => rfl, 0, by decide, fun _ => rfl⟩
/-! ### the walk of disjoint -/
section
variable {A B : Mo} {ro w : List D} {env : Env}
end
end Fx
/-! Dicts of worlds that are equal in another order. -/
namespace Fx
open PySem PySem.Spec L2
theorem nd_len {α : Type} [DecidableEq α] : ∀ {l m : List α}, l.Nodup → (∀ a ∈ l, a ∈ m) → l.length ≤ m.length
  | [], m, _, _ => Nat.zero_le _
  | a :: l, m, hn, h => by
    rw [List.nodup_cons] at hn
    have ha := h a (by simp)
    have := nd_len (l := l) (m := m.erase a) hn.2 fun b hb => (List.mem_erase_of_ne (fun e : b = a => hn.1 (e ▸ hb))).mpr (h b (List.mem_cons_of_mem _ hb))
    rw [List.length_erase_of_mem ha] at this
    have : 0 < m.length := List.length_pos_of_mem ha
    simp only [List.length_cons]
    omega
end Fx
/-! Dict comprehensions over anything; over the keys of a dict. -/
namespace Fx
open PySem PySem.Spec L2
section
variable {X : Cx} {W : WX} {pos p pos' : Pos} {kx vx tg iter : Expr} {scope : Scope} {own : List (Str × Nat)} {it : Env → M (List D)} {fk fv : EF} {t : Tg} {x : Str} {σ : L2.St} {H : Hp} {ρ : Zn}
end
section
variable {ro w : List D} {env : Env} {t : Tg} {own : List Nat} {it : Env → M (List D)} {fk fv : EF} {ds : List D} {w1 w2 : List D} {r : List (D × D)}
end
end Fx
/-! The part of a model that can be reached: plain. -/
namespace Fx
open PySem PySem.Spec L2 PyProof.Rows PySem.W
/-! ### pairs, sorted -/
namespace Mo
variable {A : Mo} {v : Nat} {S T R : List Nat}
theorem mem_row {u j : Nat} : j ∈ A.row u ↔ j < A.n ∧ A.s u j = true := by
  unfold row
  rw [List.mem_filter, List.mem_range]
def Cl (A : Mo) (S : List Nat) : Prop := ∀ i ∈ S, ∀ j ∈ A.row i, j ∈ S
/-- the least closed set with v -/
structure Gen (A : Mo) (v : Nat) (S : List Nat) : Prop where
  base : v ∈ S
  lt : ∀ i ∈ S, i < A.n
  cl : A.Cl S
  least : ∀ T : List Nat, v ∈ T → A.Cl T → ∀ i ∈ S, i ∈ T
theorem Gen.same (h1 : Gen A v S) (h2 : Gen A v T) : ∀ i, i ∈ S ↔ i ∈ T := fun i => ⟨h1.least T h2.base h2.cl i, h2.least S h1.base h1.cl i⟩
/-- one round of the law -/
def stepL (A : Mo) (R : List Nat) : List Nat := dd (natS.sort (R ++ R.flatMap A.row))
def rounds (A : Mo) (v : Nat) : Nat → List Nat
  | 0 => [v]
  | k + 1 => stepL A (rounds A v k)
/-- the part on some worlds -/
def sub (A : Mo) (L : List Nat) : Mo where
  n := L.length
  s i j := A.s (L.getD i 0) (L.getD j 0)
  v := A.kept.map fun p => (p.1, (List.range L.length).filter fun k => p.2.contains (L.getD k 0))
variable {L : List Nat}
theorem getD_mem {k : Nat} (h : k < L.length) : L.getD k 0 ∈ L := by
  rw [List.getD_eq_getElem?_getD, List.getElem?_eq_getElem h]
  exact List.getElem_mem h
theorem mem_getD {i : Nat} (h : i ∈ L) : ∃ k, k < L.length ∧ L.getD k 0 = i := by
  obtain ⟨k, hk, e⟩ := List.mem_iff_getElem.mp h
  exact ⟨k, hk, by rw [List.getD_eq_getElem?_getD, List.getElem?_eq_getElem hk]; exact e⟩
/-- the number of a world -/
def num (L : List Nat) (i : Nat) : Nat := L.idxOf i
end Mo
end Fx
/-! name = {..} on one line, the name a local. -/
namespace Fx
open PySem PySem.Spec L2 PyProof.Rows PySem.W
section
variable {X : Cx}
variable {W : WX} {pos p pos' : Pos} {kx vx tg iter : Expr} {scope : Scope} {own : List (Str × Nat)} {it : Env → M (List D)} {fk fv : EF} {t : Tg} {x : Str} {σ : L2.St} {H : Hp} {ρ : Zn}
end
/-! ### x += n -/
end Fx
/-! The part of a model that can be reached: the walk. -/
namespace Fx
open PySem PySem.Spec L2
section
variable {A : Mo} {L : List Nat} {ro w : List D} {env : Env}
/-- the numbers of the worlds -/
def numD (L : List Nat) : D := .dic (L.map nD) ((List.range L.length).map nD)
end
/-! ### reached -/
def addS (R : List Nat) (w : Nat) : List Nat := if w ∈ R then R else R ++ [w]
def addL (R ws : List Nat) : List Nat := ws.foldl addS R
theorem addL_spec : ∀ (ws R : List Nat), R.Nodup → (addL R ws).Nodup ∧ (∀ i, i ∈ addL R ws ↔ i ∈ R ∨ i ∈ ws) ∧ R <+: addL R ws
  | [], R, h => ⟨h, by simp [addL], List.prefix_refl _⟩
  | w :: ws, R, h => by
    show (addL (addS R w) ws).Nodup ∧ (∀ i, i ∈ addL (addS R w) ws ↔ _) ∧ R <+: addL (addS R w) ws
    unfold addS
    by_cases c : w ∈ R
    · rw [if_pos c]
      obtain ⟨h1, h2, h3⟩ := addL_spec ws R h
      refine ⟨h1, fun i => ?_, h3⟩
      rw [h2, List.mem_cons]
      constructor
      · rintro (z | z)
        · exact .inl z
        · exact .inr (.inr z)
      · rintro (z | z | z)
        · exact .inl z
        · exact .inl (z ▸ c)
        · exact .inr z
    · rw [if_neg c]
      obtain ⟨h1, h2, h3⟩ := addL_spec ws (R ++ [w]) (by
        rw [List.nodup_append]
        refine ⟨h, by simp, fun a ha b hb e => c ?_⟩
        rw [List.mem_singleton] at hb
        rw [← hb, ← e]
        exact ha)
      refine ⟨h1, fun i => ?_, (List.prefix_append R [w]).trans h3⟩
      rw [h2, List.mem_append, List.mem_singleton, List.mem_cons, or_assoc]
section
variable {A : Mo} {ro : List D}
/-- what holds at each turn -/
structure Bfs (A : Mo) (v : Nat) (R : List Nat) (k : Nat) : Prop where
  nd : R.Nodup
  hd : ∃ t, R = v :: t
  lt : ∀ i ∈ R, i < A.n
  kl : k ≤ R.length
  done : ∀ i, i < k → ∀ j ∈ A.row (R.getD i 0), j ∈ R
  least : ∀ T : List Nat, v ∈ T → A.Cl T → ∀ i ∈ R, i ∈ T
theorem Bfs.len {v k : Nat} {R : List Nat} (h : Bfs A v R k) : R.length ≤ A.n := by
  have := nd_len (m := List.range A.n) h.nd fun a ha => List.mem_range.mpr (h.lt a ha)
  rwa [List.length_range] at this
theorem Bfs.step {v k : Nat} {R : List Nat} (h : Bfs A v R k) (hk : k < R.length) : Bfs A v (addL R (A.row (R.getD k 0))) (k + 1) := by
  obtain ⟨h1, h2, t2, h3⟩ := addL_spec (A.row (R.getD k 0)) R h.nd
  have gd : ∀ i, i < R.length → (addL R (A.row (R.getD k 0))).getD i 0 = R.getD i 0 := fun i hi => by
    rw [← h3, List.getD_eq_getElem?_getD, List.getD_eq_getElem?_getD, List.getElem?_append_left hi]
  refine ⟨h1, ?_, fun i hi => ?_, ?_, fun i hi j hj => ?_, fun T hT cT i hi => ?_⟩
  · obtain ⟨t, e⟩ := h.hd
    exact ⟨t ++ t2, by rw [← h3, e]; rfl⟩
  · rcases (h2 i).mp hi with hi | hi
    · exact h.lt i hi
    · exact (Mo.mem_row.mp hi).1
  · rw [← h3, List.length_append]
    omega
  · rw [gd i (by omega)] at hj
    by_cases c : i = k
    · subst c
      exact (h2 j).mpr (.inr hj)
    · exact (h2 j).mpr (.inl (h.done i (by omega) j hj))
  · rcases (h2 i).mp hi with hi | hi
    · exact h.least T hT cT i hi
    · exact cT _ (h.least T hT cT _ (Mo.getD_mem hk)) i hi
theorem Bfs.gen {v : Nat} {R : List Nat} (h : Bfs A v R R.length) : Mo.Gen A v R := by
  obtain ⟨t, e⟩ := h.hd
  refine ⟨by rw [e]; simp, h.lt, fun i hi j hj => ?_, h.least⟩
  obtain ⟨k, hk, rfl⟩ := Mo.mem_getD hi
  exact h.done k hk j hj
end
end Fx
/-! Powers. -/
namespace Fx
open PySem PySem.Spec L2
end Fx
/-! Models of GL: what the law's drawing gives (written by mkFzP.py from FzA, FzC). -/
namespace Fx
open PySem PySem.Spec L2
structure GX (x : Str) : Prop where
  ok : SOk x
  c1 : ([.str "K", .str "D", .str "K4", .str "D4", .str "GL"] : List D).any (fun d => d.eqs (.str x)) = true
  c2 : x ≠ "S5"
  c3 : ([.str "D", .str "D4"] : List D).any (fun d => d.eqs (.str x)) = false
  c4 : ([.str "K", .str "D", .str "T"] : List D).any (fun d => d.eqs (.str x)) = false
  r2 : ([.str "GL", .str "Grz", .str "Int", .str "KC", .str "LC", .str "BD2", .str "HT", .str "Cl"] : List D).any (fun d => d.eqs (.str x)) = true
  r3 : ([.str "LC", .str "HT"] : List D).any (fun d => d.eqs (.str x)) = false
  r4 : ([.str "KC"] : List D).any (fun d => d.eqs (.str x)) = false
  r5 : ([.str "BD2"] : List D).any (fun d => d.eqs (.str x)) = false
  r6 : x ≠ "Cl"
  r7 : x ≠ "HT"
section
variable {ro w : List D} {env : Env}
/-- goes up, transitive -/
structure GLM (A : Mo) : Prop where
  up : ∀ v w, v < A.n → w < A.n → A.s v w = true → v < w
  trans : ∀ u v w, u < A.n → v < A.n → w < A.n → A.s u v = true → A.s v w = true → A.s u w = true
end
end Fx
/-! Truth at ranks: plain. -/
namespace Fx
open PySem PySem.Spec L2
def tv : Fm → Nat → Bool
  | .fal, _ => false
  | .var _, _ => false
  | .and a b, r => tv a r && tv b r
  | .or a b, r => tv a r || tv b r
  | .imp a b, r => !(tv a r && !tv b r)
  | .box a, r => (List.range r).all fun k => tv a k
/-! ### ranks -/
def mxN (l : List Nat) : Nat := l.foldl max 0
namespace Mo
variable {A : Mo}
def rkI (A : Mo) : Nat → Nat → Nat
  | 0, _ => 0
  | k + 1, v => mxN ((A.row v).map fun w => rkI A k w + 1)
def rk (A : Mo) (v : Nat) : Nat := rkI A A.n v
end Mo
end Fx
/-! Dicts with nested keys compared. -/
namespace Fx
open PySem PySem.Spec L2 PyProof.Rows PySem.W
section
variable {prog : Program} {w : World} {K : Type} [DecidableEq K] {knd : HeapKind prog w K} {A : Around} {E : Value → Shared → Prop} {s : Shared}
end
section
variable {X : Cx}
end
section
variable {X : Cx}
end
end Fx
/-! Small things that many laws use. -/
namespace Fx
open PySem PySem.Spec L2
/-- a formula, or nothing -/
def OFm (o : Option D) : Prop := ∀ d, o = some d → ∃ φ : Fm, d = φ.toD
theorem OFm.none : OFm none := fun d h => by cases h
theorem OFm.some {φ : Fm} : OFm (some φ.toD) := fun d h => ⟨φ, by cases h; rfl⟩
end Fx
/-! Comprehensions with two fors. -/
namespace Fx
open PySem PySem.Spec L2
section
variable {X : Cx} {C : Cfg} {W : WX} {σ : L2.St} {ρ : Zn} {H : Hp} {ro w : List D}
end
section
variable {X : Cx} {W : WX} {pos p pos' : Pos} {elt tg iter tg1 iter1 : Expr} {ifs ifs1 : List Expr} {scope : Scope} {own : List (Str × Nat)} {vs1 : List Nat} {it it1 : Env → M (List D)} {tt tt1 : Env → M Bool} {f : EF} {t t1 : Tg}
end
section
variable {t t1 : Tg} {own vs1 : List Nat} {it it1 : Env → M (List D)} {tt tt1 : Env → M Bool} {f : EF} {k : List D → M D} {env : Env} {ro w : List D}
end
end Fx
/-! More methods of lists; `in` a tuple of tuples; {} in a list of dicts. -/
namespace Fx
open PySem PySem.Spec L2 PyProof.Rows
/-! ### list * number, which may change -/
section
variable {C : Cfg} {W : WX}
/-! ### insert, extend, index -/
end
section
variable {X : Cx} {W : WX} {o e : Expr} {es : List Expr} {apos pos : Pos} {fo : EF} {fs : Env → M (List D)}
end
/-! ### in a tuple of any data -/
section
variable {X : Cx}
def rInTD (K : PySem.W.Frag) (neg : Bool) : R2 := fun x y H Q => ∃ d ds, Dp K H x d ∧ Dp K H y (.tuple ds) ∧ SeqAt.shaped d = true ∧ SeqAt.shaped (.tuple ds) = true ∧ Q (.bl (if neg then !ds.any fun z => PyData.eqv z d else ds.any fun z => PyData.eqv z d)) H
theorem room_tup {A : Around} {d : PyData} {ds : List PyData} (h : SeqAt.shaped d = true) (hu : A.units + 65 < cLine) : A.units + 1 + min (PyData.depthAll ds) d.depth < cLine := by
  have := SeqAt.depth_of_shaped h
  have h2 : min (PyData.depthAll ds) d.depth ≤ d.depth := Nat.min_le_right _ _
  omega
theorem op_inTD (hu : X.A.units + 65 < cLine) : OpR X (compareOp .In) (rInTD X.K false) := by
  intro pins s σ H x y v u Q I rx ry h
  obtain ⟨d, ds, hd, he, sd, se, q⟩ := h
  obtain ⟨as, r1⟩ := Dp.reads I d x v hd rx
  obtain ⟨bs, r2⟩ := Dp.reads I (.tuple ds) y u he ry
  exact SeqAt.in_tuple_reads r2 r1 (SeqAt.canLay_of_shaped se) (SeqAt.canLay_of_shaped sd) (room_tup sd hu) ⟨.bl _, H, I, rfl, q⟩
theorem op_notInTD (hu : X.A.units + 65 < cLine) : OpR X (compareOp .NotIn) (rInTD X.K true) := by
  intro pins s σ H x y v u Q I rx ry h
  obtain ⟨d, ds, hd, he, sd, se, q⟩ := h
  obtain ⟨as, r1⟩ := Dp.reads I d x v hd rx
  obtain ⟨bs, r2⟩ := Dp.reads I (.tuple ds) y u he ry
  exact SeqAt.notIn_tuple_reads r2 r1 (SeqAt.canLay_of_shaped se) (SeqAt.canLay_of_shaped sd) (room_tup sd hu) ⟨.bl _, H, I, rfl, q⟩
end
/-- x in a tuple of any data -/
def gInT (neg : Bool) (x y : D) : M D := match y with
  | .tup ds => fun _ w => if (x.cmp && (D.tup ds).cmp) = true then .ok (.bl (if neg = true then !ds.any fun z => PyData.eqv z.py x.py else ds.any fun z => PyData.eqv z.py x.py)) w else .no
  | _ => M.no
theorem ok2_inT {C : Cfg} {neg : Bool} : Ok2 C (rInTD C.K neg) (gInT neg) := by
  intro W σ ρ H ro w d e x y Q hS hd he q
  unfold gInT at q
  split at q
  · rename_i ds
    by_cases c : (d.cmp && (D.tup ds).cmp) = true
    · simp only [if_pos c] at q
      obtain ⟨c1, c2⟩ := Bool.and_eq_true_iff.mp c
      obtain ⟨f1, s1⟩ := Bool.and_eq_true_iff.mp c1
      obtain ⟨f2, s2⟩ := Bool.and_eq_true_iff.mp c2
      refine ⟨d.py, D.pys ds, Seen.dp f1 hd, Seen.dp f2 he, s1, s2, ?_⟩
      rw [any_pys]
      exact ok_bl hS q
    · simp only [if_neg c] at q
      exact (show False from q).elim
  · exact (show False from q).elim
theorem inT_eq {ro w : List D} {neg : Bool} {x : D} {ds : List D} (h1 : x.cmp = true) (h2 : (D.tup ds).cmp = true) : gInT neg x (.tup ds) ro w = .ok (.bl (if neg = true then !ds.any fun z => PyData.eqv z.py x.py else ds.any fun z => PyData.eqv z.py x.py)) w := by
  show (if (x.cmp && (D.tup ds).cmp) = true then _ else _) = _
  rw [h1, h2]
  rfl
/-! ### {} in a list of dicts -/
section
variable {A : Around} {s : Shared}
end
section
variable {X : Cx}
end
end Fx
/-! Frames closed by masks. -/
namespace Fx
open PySem PySem.Spec L2
/-! ### plain -/
def wstep (u : Nat) (R : Nat → Nat → Bool) (v w : Nat) : Bool := R v w || (R v u && R u w)
def Same2 (n : Nat) (R S : Nat → Nat → Bool) : Prop := ∀ v w, v < n → w < n → R v w = S v w
theorem Same2.step {n u : Nat} {R S : Nat → Nat → Bool} (hu : u < n) (h : Same2 n R S) : Same2 n (wstep u R) (wstep u S) := fun v w hv hw => by
  unfold wstep
  rw [h v w hv hw, h v u hv hu, h u w hu hw]
/-! ### masks -/
section
variable {ro w : List D} {env : Env}
end
section
variable {ro : List D} {fr pr : D} {r t : Bool} {n : Nat}
end
end Fx
/-! is_frame of whatever is passed. -/
namespace Fx
open PySem PySem.Spec L2
def two (p : Int × Int) : List Int := [p.1, p.2]
end Fx
/-! Walks over a dict within a list: for t in x[y], [.. for t in x[y]]. -/
namespace Fx
open PySem PySem.Spec L2
section
variable {X : Cx} {W : WX} {pos p p2 pos' : Pos} {elt tg iter : Expr} {ifs : List Expr} {scope : Scope} {own : List (Str × Nat)} {tt : Env → M Bool} {f : EF} {t : Tg} {x y c : Str} {σ : L2.St} {H : Hp} {ρ : Zn}
end
section
variable {t : Tg} {own : List Nat} {i j : Nat} {tt : Env → M Bool} {f : EF} {k : List D → M D} {env : Env} {ro w : List D} {ks xs ds : List D} {n : Int} {body : SF}
end
end Fx
/-! The frames of the logics: what the program asks. -/
namespace Fx
open PySem PySem.Spec L2
def h_require_logic : SF :=
  sIf (cTest (cBin gNotIn (cVar 0) (cBin gAdd (cK (.tup [.str "K", .str "D", .str "T", .str "K4", .str "D4", .str "S4", .str "S5", .str "GL", .str "Grz"])) (cK (.tup [.str "Int", .str "KC", .str "LC", .str "BD2", .str "HT", .str "Cl"]))))) (sRaise "UnknownLogic") (sNil)
/-! ### conditions -/
section
variable (n : Nat) (R : Nat → Nat → Bool)
end
/-! ### the dicts of what is seen -/
def dg (n : Nat) (R : Nat → Nat → Bool) (v : Nat) : D := .dic (((List.range n).filter (R v)).map nD) (((List.range n).filter (R v)).map fun _ => .bl true)
section
variable {n : Nat} {R : Nat → Nat → Bool} {ro w : List D} {env : Env}
end
end Fx
/-! The frames of the logics: seen_by, require_logic, is_frame_of. -/
namespace Fx
open PySem PySem.Spec L2
section
variable {n : Nat} {R : Nat → Nat → Bool} {ro w : List D} {env : Env}
end
/-! ### require_logic -/
def memB (l : List Str) (x : Str) : Bool := l.any fun y => y == x
theorem any_mem {l : List Str} {x : Str} : ((l.map D.str).any fun d => d.eqs (.str x)) = memB l x := by
  rw [List.any_map]
  rfl
theorem memB_iff {l : List Str} {x : Str} : memB l x = true ↔ x ∈ l := by
  unfold memB
  rw [List.any_eq_true]
  simp
theorem sc_strs {l : List Str} : (l.map D.str).all D.sc = true := by
  rw [List.all_map, List.all_eq_true]
  intro y _
  rfl
section
variable {n : Nat} {R : Nat → Nat → Bool} {ro w : List D} {env : Env}
theorem in_strs {l : List Str} {x : Str} : gIn (.str x) (.tup (l.map .str)) ro w = .ok (.bl (memB l x)) w := by
  refine x_in ?_
  show (if ((D.str x).sc && (l.map D.str).all D.sc) = true then some ((l.map D.str).any fun d => d.eqs (.str x)) else none) = _
  rw [sc_strs, any_mem]
  rfl
theorem notIn_strs {l : List Str} {x : Str} : gNotIn (.str x) (.tup (l.map .str)) ro w = .ok (.bl (!memB l x)) w := by
  refine x_notIn ?_
  show (if ((D.str x).sc && (l.map D.str).all D.sc) = true then some ((l.map D.str).any fun d => d.eqs (.str x)) else none) = _
  rw [sc_strs, any_mem]
  rfl
def ReqSpec (f : List D → M D) : Prop := ∀ (x : Str) (ro w : List D), f [.str x] ro w = if memB nameL x = true then .ok .non w else .exn "UnknownLogic" [] [] w
theorem require_ok : ReqSpec (runDef 1 1 h_require_logic) := fun x ro w => by
  have hs : sizeLine = 16777216 := rfl
  rw [x_def]
  simp only [List.length_cons, List.length_nil, Nat.zero_add, Nat.reduceAdd, if_true, List.map_cons, List.map_nil, Nat.reduceSub, List.replicate, List.append_nil]
  unfold h_require_logic
  have ad : gAdd (.tup [.str "K", .str "D", .str "T", .str "K4", .str "D4", .str "S4", .str "S5", .str "GL", .str "Grz"]) (.tup [.str "Int", .str "KC", .str "LC", .str "BD2", .str "HT", .str "Cl"]) ro w = .ok (.tup (nameL.map .str)) w := by
    rw [add_tup, if_pos (by simp; omega)]
    rfl
  rw [x_ifS, x_test, x_bin, x_var]
  simp only [List.getElem?_cons_zero, ofO_ss, an_ok, x_bin, x_k, see_tup, ad, see_str, notIn_strs, bool_bl, st_ok]
  cases memB nameL x <;> rfl
/-! ### is_frame_of -/
end
end Fx
/-! The frames of the logics: what the law asks. -/
namespace Fx
open PySem PySem.Spec L2
/-! ### plain -/
section
variable (n : Nat) (R : Nat → Nat → Bool)
end
section
variable {n : Nat} {R : Nat → Nat → Bool}
end
/-! ### chains, forks -/
section
variable {ro w : List D} {env : Env} {A : Mo}
end
end Fx
/-! The frames of the logics: both answers are one. -/
namespace Fx
open PySem PySem.Spec L2
section
variable {n : Nat} {R : Nat → Nat → Bool}
end
/-! ### three different worlds -/
/-! ### the law's own -/
section
variable {ro w : List D} {env : Env} {A : Mo}
end
end Fx
/-! The frames of the logics: the law's own answer. -/
namespace Fx
open PySem PySem.Spec L2
section
variable {ro w : List D} {env : Env} {A : Mo}
end
end Fx
/-! try, several except clauses without a name. -/
namespace Fx
open PySem PySem.Spec L2
def sHds : List ((Str → Option Bool) × SF) → Str → SF
  | [], c => fun env _ w => .exn c [] [] env w
  | (sub, s) :: r, c => match sub c with
    | some true => fun env ro w => (match s env ro w with
      | .go fl env2 w2 => .go fl env2 w2
      | _ => .no)
    | some false => sHds r c
    | none => fun _ _ _ => .no
def sTryM (hds : List ((Str → Option Bool) × SF)) (body : SF) : SF := fun env ro w => match body env ro w with
  | .exn c [] [] env1 w1 => sHds hds c env1 ro w1
  | .exn _ _ _ _ _ => .no
  | o => o
section
variable {X : Cx} {W : WX} {x : Str} {body suite : List Stmt} {b₀ : Stmt} {np pos pos' : Pos} {fb fs : SF} {hds : List ExceptHandler} {h₀ : ExceptHandler} {L : List ((Str → Option Bool) × SF)} {cs us : List Str} {sub : Str → Str → Bool}
def HdF (X : Cx) (hds : List ExceptHandler) (L : List ((Str → Option Bool) × SF)) : Prop := ∃ l, HdsOk X hds l ∧ ∀ (W : WX) (E : Ends) (c' : Str) (cls : Value) (dx : Option Addr) (σ1 : L2.St) (ρ ρ1 : Zn) (H H1 : Hp) (ro w1 : List D) (env1 : Fx.Env) (A : Addr),
  X.mg c' = some (.ref A) → cls = .ref A → RepX (cfg X) ρ1 H1 c' [] [] cls dx → Ext ρ ρ1 H H1 → RepS (cfg X) ρ1 H1 (ro ++ w1) → RepE (cfg X) ρ1 H1 env1 σ1 → AfterS (cfg X) W ρ H ro (sHds L c' env1 ro w1) E → wMany X.K W E l cls dx σ1 H1
theorem hdf_nil : HdF X [] [] := ⟨[], .nil, fun W D c' cls dx σ1 ρ ρ1 H H1 ro w1 env1 A h1 h2 hX x1 s1 e1 q => q cls dx σ1 ρ1 H1 x1 s1 e1 hX⟩
theorem hdf_cons (T : ExT X.K X.mg cs us sub) (hx : x ∈ us) (hg : Gl X x) (hdb : (x == ("__debug__" : Str)) = false)
    (hsu : ∀ (a : Addr) (oe : Obj) (cls : Value) (d : Option Addr) (pn : List (Addr × Obj)), Zc cls d oe → (∃ vs, oe.data = .fields vs) → PSs (X.suite a ((a, oe) :: pn)) (b₀ :: suite) (tS (cfg X) W0 fs)) (r : HdF X hds L) :
    HdF X (.ExceptHandler (some (.Name x np)) none (b₀ :: suite) pos' :: hds) ((subO cs sub x, fs) :: L) := by
  obtain ⟨l, k, g⟩ := r
  obtain ⟨B, hB⟩ := T.na x hx
  refine ⟨(.ref B, fun _ _ _ => tS (cfg X) W0 fs) :: l, .cons ⟨hg, hdb, .inl hB⟩ hsu k, fun W D c' cls dx σ1 ρ ρ1 H H1 ro w1 env1 A h1 h2 hX x1 s1 e1 q => ?_⟩
  unfold sHds at q
  cases e2 : subO cs sub x c' with
  | none => rw [e2] at q; exact (show False from q).elim
  | some b =>
    rw [e2] at q
    have hx := T.sub' hx hB c' b e2 A h1
    rw [← h2] at hx
    refine ⟨b, hx, fun hb' a na => ?_, fun hb' => ?_⟩
    · subst hb'
      simp only at q
      refine ⟨ρ1, env1, ro, w1, s1, e1, ?_⟩
      cases e3 : fs env1 ro w1 with
      | no => rw [e3] at q; exact (show False from q).elim
      | exn _ _ _ _ _ => rw [e3] at q; exact (show False from q).elim
      | go fl env2 w2 =>
        rw [e3] at q
        have q' := AfterS.ext x1 q
        cases fl with
        | nx => exact q'
        | bk => exact q'
        | ct => exact q'
        | rt d => exact q'
    · subst hb'
      simp only at q
      exact g W D c' cls dx σ1 ρ ρ1 H H1 ro w1 env1 A h1 h2 hX x1 s1 e1 q
theorem f_tryM (hh : HdF X (h₀ :: hds) L) (hs : X.stack = X.env :: X.outer) (hf : X.env.frame = some X.env.locals) (tk : Takes X W)
    (hb : ∀ (W : WX) (pn : List (Addr × Obj)) (xe : Value → Shared → Prop), Takes (X.tr pn xe) W → PassesOwn (model X.prog X.w) X.A X.env xe → PSs (X.tr pn xe) body (tS (cfg X) W fb)) :
    PS X (.Try body (h₀ :: hds) [] [] pos) (tS (cfg X) W (sTryM L fb)) := by
  obtain ⟨l, k, g⟩ := hh
  refine ps_imp (ps_try_many (tb := fun W => tS (cfg X) W fb) (Wout := W) hs hf tk hb k) fun D σ H ⟨ρ, env, ro, w, hS, hE, q⟩ => ?_
  refine ⟨ρ, env, ro, w, hS, hE, ?_⟩
  unfold sTryM at q
  cases e : fb env ro w with
  | no => rw [e] at q; exact q
  | go fl env1 w1 =>
    rw [e] at q
    cases fl with
    | nx => exact q
    | rt d => exact q
    | bk => exact q
    | ct => exact q
  | exn c' ns xs env1 w1 =>
    rw [e] at q
    cases ns with
    | cons _ _ => exact (show False from q).elim
    | nil =>
      cases xs with
      | cons _ _ => exact (show False from q).elim
      | nil =>
        intro cls dx σ1 ρ1 H1 x1 s1 e1 hX
        have hX' := hX
        obtain ⟨A, h1, h2, h3⟩ := hX
        exact g W D c' cls dx σ1 ρ ρ1 H H1 ro w1 env1 A h1 h2 hX' x1 s1 e1 q
end
end Fx
/-! Models of logics. -/
namespace Fx
open PySem PySem.Spec L2
def modalL : List Str := ["K", "D", "T", "K4", "D4", "S4", "S5", "GL", "Grz"]
/-- values that grow along the frame -/
def growsV (A : Mo) (v : List (Str × List Nat)) : Bool := v.all fun p => p.2.all fun i => (List.range A.n).all fun u => !A.s i u || p.2.contains u
def grows (A : Mo) : Bool := growsV A A.v
section
variable {ro w : List D} {env : Env} {A : Mo}
/-! ### is_model_of -/
/-! ### holds -/
end
end Fx
/-! The frames that the law draws: of each logic. -/
namespace Fx
open PySem PySem.Spec L2
section
variable {n : Nat} {R S : Nat → Nat → Bool}
/-! ### what a logic asks -/
structure LFr (x : Str) (n : Nat) (R : Nat → Nat → Bool) : Prop where
  tr : memB ["K", "D", "T"] x = false → ∀ u v w, u < n → v < n → w < n → R u v = true → R v w = true → R u w = true
  se : memB ["D", "D4"] x = true → ∀ v, v < n → ∃ w, w < n ∧ R v w = true
  ir : x = "GL" → ∀ v, v < n → R v v = false
  rf : memB ["K", "D", "K4", "D4", "GL"] x = false → ∀ v, v < n → R v v = true
  an : memB ["K", "D", "T", "K4", "D4", "S4", "S5", "GL"] x = false → ∀ v w, v < n → w < n → v ≠ w → R v w = true → R w v = false
  sy : x = "S5" → ∀ v w, v < n → w < n → R v w = true → R w v = true
  co : memB ["LC", "HT"] x = true → ∀ u v w, u < n → v < n → w < n → R u v = true → R u w = true → R v w = true ∨ R w v = true
  di : x = "KC" → ∀ u v w, u < n → v < n → w < n → R u v = true → R u w = true → ∃ z, z < n ∧ R v z = true ∧ R w z = true
  cl : x = "Cl" → ∀ v w, v < n → w < n → R v w = true → v = w
  sh : memB ["BD2", "HT"] x = true → ∀ u v w, u < n → v < n → w < n → v ≠ u → R u v = true → R v w = true → w = u ∨ w = v
end
end Fx
/-! What the law draws is of its logic: the frames. -/
namespace Fx
open PySem PySem.Spec L2
section
variable {n : Nat} {R S : Nat → Nat → Bool} {Q : Nat → Nat → Prop}
variable {B : Nat → Nat → Bool}
end
end Fx
/-! What the law draws is of its logic: the closing. -/
namespace Fx
open PySem PySem.Spec L2
section
variable {ro w : List D} {env : Env}
end
end Fx
/-! What the law draws is of its logic: the rows, the model (its walk written by mkGaI.py from FzD). -/
namespace Fx
open PySem PySem.Spec L2
section
variable {ro w : List D} {env : Env}
/-- rows by a function -/
abbrev rg (n : Nat) (g : Nat → Bool) : List Bool := (List.range n).map g
/-! ### the values -/
/-- of the logic -/
structure OfL (x : Str) (A : Mo) : Prop where
  fr : LFr x A.n A.s
  int : memB intL x = true → IntM A
theorem LFr.same {x : Str} {n : Nat} {R S : Nat → Nat → Bool} (h : Same2 n S R) (a : LFr x n R) : LFr x n S where
  tr := fun c u v w hu hv hw h1 h2 => by
    rw [h u v hu hv] at h1
    rw [h v w hv hw] at h2
    rw [h u w hu hw]
    exact a.tr c u v w hu hv hw h1 h2
  se := fun c v hv => by
    obtain ⟨w, hw, g⟩ := a.se c v hv
    exact ⟨w, hw, by rw [h v w hv hw]; exact g⟩
  ir := fun c v hv => by rw [h v v hv hv]; exact a.ir c v hv
  rf := fun c v hv => by rw [h v v hv hv]; exact a.rf c v hv
  an := fun c v w hv hw ne h1 => by
    rw [h v w hv hw] at h1
    rw [h w v hw hv]
    exact a.an c v w hv hw ne h1
  sy := fun c v w hv hw h1 => by
    rw [h v w hv hw] at h1
    rw [h w v hw hv]
    exact a.sy c v w hv hw h1
  co := fun c u v w hu hv hw h1 h2 => by
    rw [h u v hu hv] at h1
    rw [h u w hu hw] at h2
    rw [h v w hv hw, h w v hw hv]
    exact a.co c u v w hu hv hw h1 h2
  di := fun c u v w hu hv hw h1 h2 => by
    rw [h u v hu hv] at h1
    rw [h u w hu hw] at h2
    obtain ⟨z, hz, g1, g2⟩ := a.di c u v w hu hv hw h1 h2
    exact ⟨z, hz, by rw [h v z hv hz]; exact g1, by rw [h w z hw hz]; exact g2⟩
  cl := fun c v w hv hw h1 => by
    rw [h v w hv hw] at h1
    exact a.cl c v w hv hw h1
  sh := fun c u v w hu hv hw ne h1 h2 => by
    rw [h u v hu hv] at h1
    rw [h v w hv hw] at h2
    exact a.sh c u v w hu hv hw ne h1 h2
end
end Fx
/-! Parts and sums of models stay of their logics. -/
namespace Fx
open PySem PySem.Spec L2
section
variable {A B : Mo} {L : List Nat} {x : Str}
/-! ### values that grow -/
end
end Fx
/-! Scripts of numbers: the pool, formulas, models (written by mkGaK.py from FxN, K53e, FzA, FzD, GaI). -/
namespace Fx
open PySem PySem.Spec L2
namespace Lw
def hFormulaI (c_formula : List D → M D) : SF :=
  sSeq (sSet 3 (cK (.int 0)))
  (sSeq (sIf (cTest (cBin gNe (cVar 0) (cLst (cArgs [])))) (sSet 3 (cCall (one gInt) (cArgs [cMl gPopAt (cVar 0) (cArgs [cK (.int 0)])]))) (sNil))
  (sSeq (sSet 4 (cBin gMod (cCall (one gInt) (cArgs [cVar 3])) (cK (.int 10))))
  (sSeq (sIf (cOrT (cTest (cBin gEq (cVar 1) (cK (.int 0)))) (cTest (cBin gLt (cVar 4) (cK (.int 2))))) (sSeq (sIf (cTest (cBin gEq (cBin gMod (cBin gDiv (cVar 3) (cK (.int 10))) (cK (.int 8))) (cK (.int 0)))) (sRet (cTup (cArgs [cK (.str "falsum")]))) (sNil))
  (sRet (cTup (cArgs [cK (.str "var"), cBin gIx (cLst (cArgs [cK (.str "p"), cK (.str "q"), cK (.str "p"), cK (.str "q"), cK (.str "r")])) (cBin gMod (cBin gDiv (cVar 3) (cK (.int 80))) (cK (.int 5)))])))) (sNil))
  (sSeq (sIf (cOrT (cTest (cBin gEq (cVar 4) (cK (.int 2)))) (cAndT (cTest (cBin gIn (cVar 4) (cTup (cArgs [cK (.int 3), cK (.int 4)])))) (cTru (cVar 2)))) (sRet (cTup (cArgs [cK (.str "implies"), cCall (fun ds => if ds.length = 3 then c_formula ds else M.no) (cArgs [cVar 0, cBin gSub (cVar 1) (cK (.int 1)), cVar 2]), cTup (cArgs [cK (.str "falsum")])]))) (sNil))
  (sSeq (sIf (cTest (cBin gIn (cVar 4) (cTup (cArgs [cK (.int 3), cK (.int 4)])))) (sRet (cTup (cArgs [cK (.str "box"), cCall (fun ds => if ds.length = 3 then c_formula ds else M.no) (cArgs [cVar 0, cBin gSub (cVar 1) (cK (.int 1)), cVar 2])]))) (sNil))
  (sSeq (sSet 5 (cCall (fun ds => if ds.length = 3 then c_formula ds else M.no) (cArgs [cVar 0, cBin gSub (cVar 1) (cK (.int 1)), cVar 2])))
  (sRet (cTup (cArgs [cBin gIx (cLst (cArgs [cK (.str "and"), cK (.str "or"), cK (.str "implies"), cK (.str "implies"), cK (.str "or")])) (cBin gSub (cVar 4) (cK (.int 5))), cVar 5, cCall (fun ds => if ds.length = 3 then c_formula ds else M.no) (cArgs [cVar 0, cBin gSub (cVar 1) (cK (.int 1)), cVar 2])])))))))))
theorem formulaI_ok {d : Nat} {c : List D → M D} (hc : ∀ d', d = d' + 1 → FormulaSpec d' c) : FormulaSpec d (runDef 3 6 (hFormulaI c)) := by
  intro w n ms pl hw
  have hl : [D.ref n, D.int d, D.bl pl].length = 3 := rfl
  have hn : n < w.length := (List.getElem?_eq_some_iff.mp hw).1
  -- behind the number
  have key : ∃ (k : Int) (ms' : List Int), (sSeq (sSet 3 (cK (.int 0)))
  ((sIf (cTest (cBin gNe (cVar 0) (cLst (cArgs [])))) (sSet 3 (cCall (one gInt) (cArgs [cMl gPopAt (cVar 0) (cArgs [cK (.int 0)])]))) (sNil)))) [some (.ref n), some (.int d), some (.bl pl), none, none, none] [] w = .go .nx [some (.ref n), some (.int d), some (.bl pl), some (.int k), none, none] (w.set n (.lst (ms'.map .int))) := by
    cases ms with
    | nil =>
      refine ⟨0, [], ?_⟩
      have e : w.set n (.lst []) = w := by
        apply List.ext_getElem?
        intro i
        rw [List.getElem?_set]
        split
        · rename_i q
          subst q
          rw [hw]
          simp [hn]
        · rfl
      have e2 : (D.lst []).eqo = true := eqo_ints (ns := [])
      simp [see_own hw, ne_eqo e2 e2, e]
    | cons m ms =>
      refine ⟨m, ms, ?_⟩
      have e2 : (D.lst []).eqo = true := eqo_ints (ns := [])
      have e3 := eqo_ints (ns := m :: ms)
      have hp := pop_at0 hw
      simp only [List.map_cons] at e3 hw
      simp [see_own hw, ne_eqo e3 e2, hp]
  obtain ⟨k, ms', hk⟩ := key
  rw [x_def, if_pos hl]
  unfold hFormulaI
  have he : List.map some [D.ref n, D.int d, D.bl pl] ++ List.replicate (6 - 3) none = [some (.ref n), some (.int d), some (.bl pl), none, none, none] := rfl
  rw [he]
  generalize hw1 : w.set n (.lst (ms'.map .int)) = w1 at hk
  have hg : w1[n]? = some (.lst (ms'.map .int)) := by rw [← hw1]; simp [hn]
  have hs : ∀ x, w1.set n x = w.set n x := fun x => by rw [← hw1]; simp
  rw [seq_assoc, hk, oan_nx]
  by_cases h1 : d = 0 ∨ k % 10 < 2
  · by_cases h2 : k / 10 % 8 = 0
    · refine ⟨.fal, ms', ?_, by simp [Fm.ht], trivial, fun _ => rfl⟩
      rw [hw1]
      rcases h1 with h1 | h1
      · simp [h1, h2, Fm.toD]
      · by_cases h0 : d = 0 <;> simp [h1, h2, h0, Fm.toD]
    · obtain ⟨x, hx, y, hy, hp⟩ := list5 (a := D.str "p") (b := .str "q") (c := .str "p") (d := .str "q") (e := .str "r") (j := k / 80 % 5) (P := fun d => ∃ x, d = .str x ∧ pqr x) ⟨_, rfl, .inl rfl⟩ ⟨_, rfl, .inr (.inl rfl)⟩ ⟨_, rfl, .inl rfl⟩ ⟨_, rfl, .inr (.inl rfl)⟩ ⟨_, rfl, .inr (.inr rfl)⟩ ⟨Int.emod_nonneg _ (by decide), Int.emod_lt_of_pos _ (by decide)⟩
      subst hy
      refine ⟨.var y, ms', ?_, by simp [Fm.ht], hp, fun _ => rfl⟩
      rw [hw1]
      rcases h1 with h1 | h1
      · simp [h1, h2, hx, Fm.toD]
      · by_cases h0 : d = 0 <;> simp [h1, h2, h0, hx, Fm.toD]
  · obtain ⟨h0, hk2⟩ : d ≠ 0 ∧ ¬ k % 10 < 2 := ⟨fun q => h1 (.inl q), fun q => h1 (.inr q)⟩
    clear h1
    obtain ⟨d', rfl⟩ : ∃ d', d = d' + 1 := ⟨d - 1, by omega⟩
    obtain ⟨φ, m2, c1, c2, c3, c4⟩ := hc d' rfl w1 n ms' pl hg
    have hg2 : (w1.set n (.lst (m2.map .int)))[n]? = some (.lst (m2.map .int)) := by
      rw [← hw1]
      simp [hn]
    have e0 : ((d' : Int) + 1 = 0) = False := by
      apply eq_false
      omega
    have e1 : (d' : Int) + 1 - 1 = d' := by omega
    rw [hs] at c1
    by_cases h2 : k % 10 = 2
    · refine ⟨.imp φ .fal, m2, ?_, by simp only [Fm.ht]; omega, ⟨c3, trivial⟩, fun q => by simp [Fm.plain, c4 q]⟩
      simp [h2, e0, c1, Fm.toD]
    · by_cases h3 : k % 10 = 3 ∨ k % 10 = 4
      · have hkk : (3 = k % 10 ∨ 4 = k % 10) = True := by
          apply eq_true
          omega
        cases pl with
        | true =>
          refine ⟨.imp φ .fal, m2, ?_, by simp only [Fm.ht]; omega, ⟨c3, trivial⟩, fun q => by simp [Fm.plain, c4 q]⟩
          simp [hk2, h2, hkk, e0, c1, Fm.toD]
        | false =>
          refine ⟨.box φ, m2, ?_, by simp only [Fm.ht]; omega, c3, fun q => by simp at q⟩
          simp [hk2, h2, hkk, e0, c1, Fm.toD]
      · have hkk : (3 = k % 10 ∨ 4 = k % 10) = False := by
          apply eq_false
          omega
        obtain ⟨ψ, m3, b1, b2, b3, b4⟩ := hc d' rfl (w1.set n (.lst (m2.map .int))) n m2 pl hg2
        rw [hs, List.set_set] at b1
        obtain ⟨x, hx, f, hf⟩ := list5 (a := D.str "and") (b := .str "or") (c := .str "implies") (d := .str "implies") (e := .str "or") (j := k % 10 - 5) (P := fun d => ∃ f : Fm → Fm → Fm, ∀ φ ψ, (f φ ψ).toD = .tup [d, φ.toD, ψ.toD] ∧ (f φ ψ).ht = max φ.ht ψ.ht + 1 ∧ (φ.Over pqr → ψ.Over pqr → (f φ ψ).Over pqr) ∧ (φ.plain = true → ψ.plain = true → (f φ ψ).plain = true))
          ⟨.and, fun _ _ => ⟨rfl, rfl, fun a b => ⟨a, b⟩, fun a b => by simp [Fm.plain, a, b]⟩⟩ ⟨.or, fun _ _ => ⟨rfl, rfl, fun a b => ⟨a, b⟩, fun a b => by simp [Fm.plain, a, b]⟩⟩ ⟨.imp, fun _ _ => ⟨rfl, rfl, fun a b => ⟨a, b⟩, fun a b => by simp [Fm.plain, a, b]⟩⟩ ⟨.imp, fun _ _ => ⟨rfl, rfl, fun a b => ⟨a, b⟩, fun a b => by simp [Fm.plain, a, b]⟩⟩ ⟨.or, fun _ _ => ⟨rfl, rfl, fun a b => ⟨a, b⟩, fun a b => by simp [Fm.plain, a, b]⟩⟩ (by omega)
        refine ⟨f φ ψ, m3, ?_, by rw [(hf φ ψ).2.1]; omega, (hf φ ψ).2.2.1 c3 b3, fun q => (hf φ ψ).2.2.2 (c4 q) (b4 q)⟩
        simp [hk2, h2, hkk, e0, c1, b1, hx, (hf φ ψ).1]
end Lw
def PL (xs : List Int) : Prop := (∀ x ∈ xs, 0 ≤ x) ∧ xs.length ≤ 1000
theorem see_last {w0 : List D} {d : D} : see [] (w0 ++ [d]) (.ref w0.length) = d := by
  have := see_at (ro := []) (w := w0 ++ [d]) (k := w0.length) (d := d) (by simp)
  rwa [List.length_nil, Nat.zero_add] at this
theorem app_last {w0 es : List D} {x : D} (h : es.length < 16777216) : gAppend [x] (.ref w0.length) [] (w0 ++ [.lst es]) = .ok .non (w0 ++ [.lst (es ++ [x])]) := by
  have ap := append_at (ro := []) (w := w0 ++ [.lst es]) (n := w0.length) (d := x) (ds := es) (by simp) h
  rw [List.length_nil, Nat.zero_add] at ap
  rw [ap]
  simp
def nB : SF := sIf (cAndT (cTest (cBin gGt (cVar 5) (cK (.int 0)))) (cTest (cBin gLt (cCall (one gLen) (cArgs [cVar 3])) (cVar 2)))) (sSeq (sExpr (cMl gAppend (cVar 3) (cArgs [cBin gMod (cCall (one gInt) (cArgs [cVar 5])) (cK (.int 4096))]))) (sSet 5 (cBin gDiv (cVar 5) (cK (.int 4096))))) (sNil)
theorem n_in {mo : Int} {w0 : List D} (hmo : mo ≤ 900) {o0 o1 o4 o7 : Option D} : ∀ (ds : List D) (c : Int) (xs : List Int) (o6 : Option D), PL xs → ∃ (c' : Int) (xs' : List Int) (o6' : Option D), PL xs' ∧ forL (.nm 6) nB ds [o0, o1, some (.int mo), some (.ref w0.length), o4, some (.int c), o6, o7] [] (w0 ++ [.lst (xs.map .int)]) = .go .nx [o0, o1, some (.int mo), some (.ref w0.length), o4, some (.int c'), o6', o7] (w0 ++ [.lst (xs'.map .int)])
  | [], c, xs, o6, h => ⟨c, xs, o6, h, rfl⟩
  | d :: ds, c, xs, o6, h => by
    by_cases k : 0 < c ∧ (xs.length : Int) < mo
    · have h' : PL (xs ++ [c % 4096]) := ⟨fun x hx => by
        rcases List.mem_append.mp hx with z | z
        · exact h.1 x z
        · rw [List.mem_singleton.mp z]
          omega, by simp only [List.length_append, List.length_singleton]; omega⟩
      obtain ⟨c', xs', o6', g, e⟩ := n_in (mo := mo) (w0 := w0) hmo (o0 := o0) (o1 := o1) (o4 := o4) (o7 := o7) ds (c / 4096) (xs ++ [c % 4096]) (some d) h'
      refine ⟨c', xs', o6', g, ?_⟩
      have ap := app_last (w0 := w0) (es := xs.map .int) (x := .int (c % 4096)) (by rw [List.length_map]; omega)
      have k2 : (xs.length : Int) < mo := k.2
      rw [List.map_append] at e
      rw [for_nm, ← e]
      simp [nB, see_last, k.1, k2, ap]
    · obtain ⟨c', xs', o6', g, e⟩ := n_in (mo := mo) (w0 := w0) hmo (o0 := o0) (o1 := o1) (o4 := o4) (o7 := o7) ds c xs (some d) h
      refine ⟨c', xs', o6', g, ?_⟩
      rw [for_nm, ← e]
      by_cases k1 : 0 < c
      · have k2 : ¬ (xs.length : Int) < mo := by omega
        simp [nB, see_last, k1, k2]
      · simp [nB, see_last, k1]
def nO : SF := sSeq (sSet 5 (cCall (one gAbs) (cArgs [cBin gIx (cVar 0) (cVar 4)])))
  (sIf (cTest (cBin gGe (cVar 5) (cK (.int 1000000000000000000)))) (sFor (.nm 6) (cRng1 (cArgs [cK (.int 60)])) nB) (sIf (cTest (cBin gLt (cCall (one gLen) (cArgs [cVar 3])) (cVar 2))) (sSeq (sSet 7 (cBin gMod (cCall (one gInt) (cArgs [cBin gAdd (cBin gAdd (cBin gMul (cVar 5) (cK (.int 48271))) (cBin gMul (cVar 4) (cK (.int 69621)))) (cK (.int 12345))])) (cK (.int 2147483647))))
  (sSeq (sSet 7 (cBin gMod (cCall (one gInt) (cArgs [cBin gAdd (cBin gMul (cVar 7) (cK (.int 69621))) (cBin gDiv (cVar 7) (cK (.int 1009)))])) (cK (.int 1000003))))
  (sExpr (cMl gAppend (cVar 3) (cArgs [cBin gMod (cCall (one gInt) (cArgs [cVar 7])) (cK (.int 4096))]))))) (sNil)))
theorem n_out {mo : Int} {w0 : List D} (hmo : mo ≤ 900) {ns : List Int} {o1 : Option D} : ∀ (is : List Nat) (xs : List Int) (o4 o5 o6 o7 : Option D), (∀ i ∈ is, i < ns.length) → PL xs → ∃ (xs' : List Int) (o4' o5' o6' o7' : Option D), PL xs' ∧ forL (.nm 4) nO (is.map fun (i : Nat) => .int (i : Int)) [some (.lst (ns.map .int)), o1, some (.int mo), some (.ref w0.length), o4, o5, o6, o7] [] (w0 ++ [.lst (xs.map .int)]) = .go .nx [some (.lst (ns.map .int)), o1, some (.int mo), some (.ref w0.length), o4', o5', o6', o7'] (w0 ++ [.lst (xs'.map .int)])
  | [], xs, o4, o5, o6, o7, _, h => ⟨xs, o4, o5, o6, o7, h, rfl⟩
  | i :: is, xs, o4, o5, o6, o7, hi, h => by
    have hil := hi i (by simp)
    have ix : ∀ w, gIx (.lst (ns.map .int)) (.int i) [] w = .ok (.int ns[i]) w := fun w => by simp [hil]
    have hj : ∀ j ∈ is, j < ns.length := fun j hj => hi j (by simp [hj])
    have r60 : ∀ w, gRng1 [.int 60] [] w = .ok (rngD 0 60) w := fun w => rng1_nat (n := 60) (ro := []) (w := w) (by decide)
    rw [List.map_cons, for_nm]
    by_cases k1 : (1000000000000000000 : Int) ≤ ns[i].natAbs
    · obtain ⟨c', xs1, o6', g1, e1⟩ := n_in (mo := mo) (w0 := w0) hmo (o0 := some (.lst (ns.map .int))) (o1 := o1) (o4 := some (.int i)) (o7 := o7) (rngD 0 60) ns[i].natAbs xs o6 h
      obtain ⟨xs', a, b, c, d, g, e⟩ := n_out (mo := mo) (w0 := w0) hmo (o1 := o1) is xs1 (some (.int i)) (some (.int c')) o6' o7 hj g1
      refine ⟨xs', a, b, c, d, g, ?_⟩
      rw [← e]
      simp [nO, ix, k1, x_for, r60, e1, -for_nm]
    · by_cases k2 : (xs.length : Int) < mo
      · have h1 : ∀ x : Int, 0 ≤ x % 4096 := fun x => by omega
        generalize hm : ((((ns[i].natAbs : Int) * 48271 + (i : Int) * 69621 + 12345) % 2147483647) * 69621 + (((ns[i].natAbs : Int) * 48271 + (i : Int) * 69621 + 12345) % 2147483647) / 1009) % 1000003 % 4096 = v
        have hv : 0 ≤ v := by rw [← hm]; exact h1 _
        have h' : PL (xs ++ [v]) := ⟨fun x hx => by
          rcases List.mem_append.mp hx with z | z
          · exact h.1 x z
          · rw [List.mem_singleton.mp z]
            exact hv, by simp only [List.length_append, List.length_singleton]; omega⟩
        obtain ⟨xs', a, b, c, d, g, e⟩ := n_out (mo := mo) (w0 := w0) hmo (o1 := o1) is (xs ++ [v]) (some (.int i)) (some (.int ns[i].natAbs)) o6 (some (.int (((((ns[i].natAbs : Int) * 48271 + (i : Int) * 69621 + 12345) % 2147483647) * 69621 + (((ns[i].natAbs : Int) * 48271 + (i : Int) * 69621 + 12345) % 2147483647) / 1009) % 1000003))) hj h'
        refine ⟨xs', a, b, c, d, g, ?_⟩
        have ap := app_last (w0 := w0) (es := xs.map .int) (x := .int v) (by rw [List.length_map]; omega)
        rw [List.map_append] at e
        rw [← e]
        simp [nO, ix, k1, see_last, k2, hm, ap, -for_nm]
      · obtain ⟨xs', a, b, c, d, g, e⟩ := n_out (mo := mo) (w0 := w0) hmo (o1 := o1) is xs (some (.int i)) (some (.int ns[i].natAbs)) o6 o7 hj h
        refine ⟨xs', a, b, c, d, g, ?_⟩
        rw [← e]
        simp [nO, ix, k1, see_last, k2, -for_nm]

def hNumbers : SF := sSeq (sSet 3 (cLstM (cArgs []))) (sSeq (sFor (.nm 4) (cRng2 (cArgs [cVar 1, cCall (one gLen) (cArgs [cVar 0])])) nO) (sRet (cVar 3)))
theorem rngD_from {a n : Nat} : rngD a n = (List.range' a n).map fun (i : Nat) => .int (i : Int) := by
  unfold rngD
  rw [List.range'_eq_map_range, List.map_map]
  apply List.map_congr_left
  intro i _
  simp
def NumSpec (f : List D → M D) : Prop := ∀ (ns : List Int) (a : Nat) (mo : Int) (w0 : List D), ns.length ≤ 63 → a ≤ 63 → mo ≤ 900 → ∃ xs : List Int, PL xs ∧ f [.lst (ns.map .int), .int a, .int mo] [] w0 = .ok (.ref w0.length) (w0 ++ [.lst (xs.map .int)])
theorem numbers_ok : NumSpec (runDef 3 8 hNumbers) := by
  intro ns a0 mo w0 hns ha hmo
  obtain ⟨xs, a, b0, c, d, h, e⟩ := n_out (mo := mo) (w0 := w0) hmo (ns := ns) (o1 := some (.int a0)) (List.range' a0 (ns.length - a0)) [] none none none none (fun i hi => by
    have := List.mem_range'_1.mp hi
    omega) ⟨fun x hx => (by cases hx), Nat.zero_le _⟩
  rw [← rngD_from] at e
  refine ⟨xs, h, ?_⟩
  have r : ∀ w, gRng2 [.int a0, .int (ns.length : Int)] [] w = .ok (rngD a0 (ns.length - a0)) w := fun w => by
    rw [rng2_int, if_pos ⟨by omega, by omega⟩]
    congr 2
    omega
  simp only [List.map_nil] at e
  rw [x_def]
  unfold hNumbers
  have e' : forL (.nm 4) nO (rngD a0 (ns.length - a0)) [some (.lst (ns.map .int)), some (.int a0), some (.int mo), some (.ref w0.length), none, none, none, none] [] (w0 ++ [.lst []]) = .go .nx [some (.lst (ns.map .int)), some (.int a0), some (.int mo), some (.ref w0.length), a, b0, c, d] (w0 ++ [.lst (xs.map .int)]) := e
  simp [x_for, r, e', -for_nm]
section
variable {ro w : List D} {env : Env}
end
end Fx
/-! list(d), d a dict that stands still. -/
namespace Fx
open PySem PySem.Spec L2
def gListD : D → M D
  | .dic ks _ => fun _ w => .ok (.lst ks) w
  | _ => M.no
@[simp] theorem listD_dic {ks xs : List D} {ro w : List D} : gListD (.dic ks xs) ro w = .ok (.lst ks) w := rfl
end Fx
/-! Rounds: plain. -/
namespace Fx
open PySem PySem.Spec L2
abbrev RL := List ((Nat × Nat) × Nat)
def dR (L : RL) : D := .dct (L.map fun e => prD e.1) (L.map fun e => nD e.2)
def kF (L : RL) (p : Nat × Nat) : Bool := L.any fun e => decide (e.1 = p)
def T0 (A B : Mo) (p : Nat × Nat) : Bool := (A.v.map (·.1) ++ B.v.map (·.1)).any fun x => !decide ((A.at' x).contains p.1 = (B.at' x).contains p.2)
def lonL (A B : Mo) (F : Nat × Nat → Bool) (p : Nat × Nat) : Bool := (A.row p.1).any fun x => (B.row p.2).all fun y => F (x, y)
def lonR (A B : Mo) (F : Nat × Nat → Bool) (p : Nat × Nat) : Bool := (B.row p.2).any fun y => (A.row p.1).all fun x => F (x, y)
def isT (A B : Mo) (L : RL) (p : Nat × Nat) : Bool := lonL A B (kF L) p || lonR A B (kF L) p
def newP (A B : Mo) (L : RL) : List (Nat × Nat) := (gridL A.n B.n).filter fun p => !kF L p && isT A B L p
def LR (A B : Mo) : Nat → RL
  | 0 => ((gridL A.n B.n).filter (T0 A B)).map fun p => (p, 0)
  | k + 1 => LR A B k ++ (newP A B (LR A B k)).map fun p => (p, k + 1)
section
variable {A B : Mo}
end
end Fx
/-! Rounds: the walk. -/
namespace Fx
open PySem PySem.Spec L2
section
variable {ro w : List D} {env : Env} {A B : Mo}
/-! ### names -/
/-! ### witnesses -/
/-- a rounds object -/
structure RoO (A B : Mo) (L : RL) (ro w : List D) (o : D) : Prop where
  o : ∃ d, see ro w o = .ins "Rounds" ["first", "second", "found"] [A.progD, B.progD, d] ∧ see ro w d = dR L
theorem f1 {d : D} : fieldV ["first", "second", "found"] [A.progD, B.progD, d] "first" = some A.progD := rfl
theorem f2 {d : D} : fieldV ["first", "second", "found"] [A.progD, B.progD, d] "second" = some B.progD := by
  simp [fieldV, ofString_inj]
theorem f3 {d : D} : fieldV ["first", "second", "found"] [A.progD, B.progD, d] "found" = some d := by
  simp [fieldV, ofString_inj]
end
end Fx
/-! Rounds: the object, the law's own. -/
namespace Fx
open PySem PySem.Spec L2
section
variable {ro w : List D} {env : Env} {A B : Mo}
/-! ### the object -/
end
end Fx
/-! Rounds: the whole; the law's own. -/
namespace Fx
open PySem PySem.Spec L2
def LF (A B : Mo) : RL := LR A B (A.n * B.n + 1)
section
variable {ro w : List D} {env : Env} {A B : Mo}
/-! ### the greatest bisimulation -/
end
end Fx
/-! Rounds: the law's own. -/
namespace Fx
open PySem PySem.Spec L2
section
variable {ro w : List D} {env : Env} {A B : Mo}
end
end Fx
/-! Rounds: the law's own, its rounds. -/
namespace Fx
open PySem PySem.Spec L2
section
variable {ro w : List D} {env : Env} {A B : Mo}
end
end Fx
/-! A model with a twin. -/
namespace Fx
open PySem PySem.Spec L2
section
variable {ro w : List D} {env : Env} {A B : Mo}
end
end Fx
/-! d.get(k, z), d a dict with nested keys. -/
namespace Fx
open PySem PySem.Spec L2 PyProof.Rows PySem.W
def IsN (X : Cx) (H : Hp) (a : Addr) : Prop := ∀ pins σ s, Inv X pins σ H s → s.TypeIs (.ref a) "dict" ∧ ∀ b, Value.ref a = .ref b → ∃ ob, s.heap.get? b = some ob ∧ ob.dict = none
section
variable {X : Cx} {o e f : Expr} {apos cpos : Pos} {td ty tx : TE}
end
section
variable {X : Cx} {W : WX} {fo fk fz : EF} {o e f : Expr} {pos apos : Pos}
end
section
variable {fo fk fz : EF} {env : Fx.Env} {ro w : List D}
end
end Fx
/-! The round of two worlds; chains. -/
namespace Fx
open PySem PySem.Spec L2
section
variable {ro w : List D} {env : Env} {A B : Mo}
/-! ### chains -/
end
end Fx
/-! What is told at round r no formula of less depth tells. -/
namespace Fx
open PySem PySem.Spec L2
section
variable {A B : Mo}
end
end Fx
/-! Comprehensions that fill an object of any kind; dicts with nested keys made so. -/
namespace Fx
open PySem PySem.Spec L2 PyProof.Rows
/-- what stands behind the test: where to, in which block, what then, what if it fails -/
abbrev Fill := Addr → PySem.Env → (Shared → Prop) → (Value → Shared → Prop) → Shared → Prop
abbrev errB (P : Program) (w : World) (A : Around) (env : PySem.Env) (R : Result → Shared → Prop) : Value → Shared → Prop := notedBy (model P w) A env fun x s' => R (.error x) s'
/-- a comprehension of one for -/
structure CompK (P : Program) (w : World) (A : Around) (e tg iter : Expr) (ifs : List Expr) (newAcc : Sem Value) (ob : Obj) (fill : Fill) : Prop where
  cl : clausesOf e = [⟨tg, iter, ifs, 0⟩]
  new : ∀ {s : Shared} {Q E : Value → Shared → Prop}, Q (.ref s.heap.objs.size) { s with heap := s.heap.push ob } → wpAny (model P w) A newAcc Q E s
  loop : ∀ {R : Result → Shared → Prop} {s : Shared} {it : Value} {D : Addr} {env : PySem.Env} (J : Nat → Shared → Prop),
    (∀ n s, J n s → wpAny (model P w) A (pyNext it) (fun r s1 => match r with
      | none => R (.ok .next) s1
      | some v => wpAny (model P w) A (letOwnedTupleGo tg it v) (fun _ s2 => wpAny (model P w) A (assign tg env v) (fun _ s3 =>
          wpAny (model P w) A (forIn ifs true fun c r => if r = true then do let ok ← isTrue c env (eval c env); pure (ForInStep.yield ok) else pure (ForInStep.yield r)) (fun ok s4 =>
            if ok = true then fill D env (fun s5 => ∃ m, m < n ∧ J m s5) (errB P w A env R) s4 else ∃ m, m < n ∧ J m s4) (errB P w A env R) s3) (errB P w A env R) s2) (errB P w A env R) s1) (errB P w A env R) s) →
    ∀ n, J n s → codeAny (model P w) A (.compLoop e 0 it (.ref D) env) R s
  start : ∀ {R : Result → Shared → Prop} {s : Shared} {it acc : Value} {env : PySem.Env}, codeAny (model P w) A (.compLoop e 0 it acc env) R s →
    wpAny (model P w) A (pyIter it) (fun it' s' => codeAny (model P w) A (.compLoop e 0 it' acc env) R s') (errB P w A env R) s → codeAny (model P w) A (.compStart e 0 it acc env) R s
section
variable {X : Cx} {pins : List (Addr × Obj)} {s : Shared} {σ : L2.St} {H : Hp} {Q : VK} {e tg iter : Expr} {ifs : List Expr} {newAcc : Sem Value} {ob : Obj} {fill : Fill} {scope : Scope} {own : List (Str × Nat)} {pos' : Pos} {wi : TI} {g : TG} {tt : TT} {O : Addr → HO} {body : Addr → L2.St → Hp → (Hp → Prop) → Prop}
end
/-! ### dicts with nested keys -/
section
variable {X : Cx} {kx vx tg iter : Expr} {ifs : List Expr} {scope : Scope} {own : List (Str × Nat)} {pos : Pos} {wi : TI} {g : TG} {tt : TT} {tk tv : TE}
end
section
variable {C : Cfg} {W : WX} {σ : L2.St} {ρ : Zn} {H : Hp} {ro w : List D}
end
section
variable {X : Cx} {W : WX} {kx vx tg iter : Expr} {ifs : List Expr} {scope : Scope} {own : List (Str × Nat)} {pos : Pos} {it : Env → M (List D)} {tt : Env → M Bool} {fk fv : EF} {t : Tg} {σ : L2.St} {H : Hp}
end
/-! ### {} that stays -/
end Fx
/-! Formulas that tell two worlds apart: plain. -/
namespace Fx
open PySem PySem.Spec L2
section
variable {A B : Mo}
/-! ### the rounds -/
structure Tells (A B : Mo) (φ : Fm) (p : Nat × Nat) (rd : Nat) : Prop where
  md : Fo.md φ = rd
  l : A.sem false φ p.1 = true
  r : B.sem false φ p.2 = false
  ht : φ.ht ≤ 2 + 9 * rd
  ok : φ.Over SOk
end
end Fx
/-! Formulas that tell: the walk. -/
namespace Fx
open PySem PySem.Spec L2
section
variable {ro w : List D} {env : Env}
end
section
variable {ro w : List D} {env : Env} {A B : Mo}
end
/-! ### joined -/
section
variable {ro w : List D} {env : Env} {A B : Mo}
end
section
variable {ro w : List D} {env : Env} {A B : Mo}
end
section
variable {ro w : List D} {env : Env} {A B : Mo}
structure TellSpec (A B : Mo) (f : List D → M D) : Prop where
  not : ∀ (v u : Nat) (ro w : List D), v < A.n → u < B.n → kF (LF A B) (v, u) = false → f [A.progD, nD v, B.progD, nD u] ro w = .exn "NotTold" [] [] w
  yes : ∀ (v u r : Nat) (ro w : List D), ((v, u), r) ∈ LF A B → ∃ φ : Fm, f [A.progD, nD v, B.progD, nD u] ro w = .ok φ.toD w ∧ Tells A B φ (v, u) r
end
end Fx
/-! sorted({(.., ..) for ..}), the pairs of small numbers. -/
namespace Fx
open PySem PySem.Spec L2 PyProof.Rows
section
variable {P : Program} {w : World} {A : Around} {elt tg iter : Expr} {ifs : List Expr} {scope : Scope} {pos : Pos}
end
section
variable {X : Cx} {elt tg iter : Expr} {ifs : List Expr} {scope : Scope} {own : List (Str × Nat)} {pos : Pos} {wi : TI} {g : TG} {tt : TT} {te : TE}
end
/-! ### plain: ascending pairs -/
def cd2 (p : Nat × Nat) : Int := TS.code 64 [p.1, p.2]
/-! ### the rule -/
def prOf : D → Option (Nat × Nat)
  | .tup [.int i, .int j] => if 0 ≤ i ∧ i.natAbs < 64 ∧ 0 ≤ j ∧ j.natAbs < 64 then some (i.toNat, j.toNat) else none
  | _ => none
def hasP (r : List D) (p : Nat × Nat) : Bool := r.any fun d => decide (prOf d = some p)
section
variable {C : Cfg} {W : WX} {σ : L2.St} {ρ : Zn} {H : Hp} {ro w : List D}
/-- what the set holds, told by the pairs that were put into it -/
structure SetP (C : Cfg) (ρ : Zn) (H : Hp) (L : List (Addr × List Int)) (acc : List D) : Prop where
  rep : ∀ e ∈ L, ∃ p : Nat × Nat, e.2 = [(p.1 : Int), (p.2 : Int)] ∧ p.1 < 64 ∧ p.2 < 64 ∧ hasP acc p = true ∧ Rep C ρ H (prD p) (.ref e.1)
  all : ∀ p : Nat × Nat, hasP acc p = true → [(p.1 : Int), (p.2 : Int)] ∈ L.map (·.2)
  len : L.length ≤ acc.length
theorem SetP.mono {ρ' : Zn} {H' : Hp} {L : List (Addr × List Int)} {acc : List D} (h : SetP C ρ H L acc) (k : ∀ d v, Rep C ρ H d v → Rep C ρ' H' d v) : SetP C ρ' H' L acc :=
  ⟨fun e he => let ⟨p, a, b, c, d, r⟩ := h.rep e he; ⟨p, a, b, c, d, k _ _ r⟩, h.all, h.len⟩
end
section
variable {X : Cx} {W : WX} {elt tg iter : Expr} {ifs : List Expr} {scope : Scope} {own : List (Str × Nat)} {p1 pos q1 : Pos} {it : Env → M (List D)} {tt : Env → M Bool} {fe : EF} {t : Tg} {σ : L2.St} {H : Hp}
end
end Fx
/-! min of a list. -/
namespace Fx
open PySem PySem.Spec L2
section
variable {C : Cfg} {ro w : List D} {ns : List Int}
end
end Fx
/-! The smallest model: plain. -/
namespace Fx
open PySem PySem.Spec L2
section
variable {A : Mo}
/-- the worlds that are like v -/
def cand (A : Mo) (v : Nat) : List Nat := (List.range A.n).filter fun w => !kF (LF A A) (v, w)
def lst1 (A : Mo) (v : Nat) : Nat := (cand A v).headD 0
def lsts (A : Mo) : List Nat := (List.range A.n).map (lst1 A)
def ordQ (A : Mo) : List Nat := srt (lsts A)
def num (A : Mo) (v : Nat) : Nat := (ordQ A).idxOf (lst1 A v)
/-! ### the model of the classes -/
end
end Fx
/-! The smallest model: the walk. -/
namespace Fx
open PySem PySem.Spec L2
section
variable {ro w : List D} {env : Env} {A : Mo}
end
section
variable {ro w : List D} {env : Env} {A : Mo}
end
section
variable {ro w : List D} {env : Env} {A : Mo}
end
end Fx
/-! What the smallest model keeps: plain. -/
namespace Fx
open PySem PySem.Spec L2
section
variable {A : Mo}
/-! ### zig and zag -/
/-! ### the frame -/
/-! ### nothing more can be made one -/
end
end Fx
/-! try, except clauses without a name, else. -/
namespace Fx
open PySem PySem.Spec L2
section
variable {X : Cx} {W : WX} {body orelse : List Stmt} {pos : Pos} {fb fe : SF} {hds : List ExceptHandler} {h₀ : ExceptHandler} {L : List ((Str → Option Bool) × SF)}
end
end Fx
/-! Two models and their disjoint one. -/
namespace Fx
open PySem PySem.Spec L2
section
variable {A B : Mo}
end
end Fx
/-! range(n) as a value that is walked later. -/
namespace Fx
open PySem PySem.Spec L2 PyProof.Rows
section
variable {X : Cx} {tg e a : Expr} {td : TE} {ta : TA} {p pos : Pos}
end
section
variable {X : Cx} {W : WX} {tg e a : Expr} {f : EF} {fs : Env → M (List D)} {p pos : Pos}
end
section
variable {ro w : List D} {env : Env}
end
end Fx
/-! The skeleton of a model of S4: plain. -/
namespace Fx
open PySem PySem.Spec L2
structure S4f (A : Mo) : Prop where
  rf : ∀ v, v < A.n → A.s v v = true
  tr : ∀ u v w, u < A.n → v < A.n → w < A.n → A.s u v = true → A.s v w = true → A.s u w = true
section
variable {A : Mo}
/-! ### zig and zag -/
/-! ### the frame -/
/-! ### the law's order -/
end
end Fx
/-! Sets of nested tuples, fewer than 64 of them. The table's own laws are the kit's (L2); here they are used for the kind of nested keys. -/
namespace NS
open PySem PySem.Spec L2 PyProof.Rows
abbrev kh (w : World) (k : NestedKey) : Int := k.hash w
/-- the tuple at a is the key k -/
def IsN (h : Heap) (k : NestedKey) (a : Addr) : Prop := NestedIs h k (.ref a) ∧ k.depth ≤ 8
abbrev KL := List (Addr × NestedKey)
section
variable {P : Program} {w : World}
theorem IsN.one {h : Heap} {k k' : NestedKey} {a : Addr} (x : IsN h k a) (y : IsN h k' a) : k = k' := NestedIs.inj _ _ _ x.1 y.1
theorem IsN.keep {h h' : Heap} {k : NestedKey} {a : Addr} (x : IsN h k a) (g : ∀ b o, h.get? b = some o → h'.get? b = some o) : IsN h' k a := ⟨NestedIs.at (fun b o vs n e _ => g b o e) _ _ x.1, x.2⟩
theorem IsN.but {h h' : Heap} {k : NestedKey} {a s : Addr} {o : Obj} {es : Array (Int × Value)} {ep : Nat} {t : SetTable} (x : IsN h k a) (ho : h.get? s = some o) (hd : o.data = .set es ep t) (g : Heap.SameBut s h h') : IsN h' k a := by
  refine ⟨NestedIs.at (fun b ob vs n e d => (g.2 b fun z => ?_).trans e) _ _ x.1, x.2⟩
  subst z
  cases ho.symm.trans e
  rw [hd] at d
  cases d
/-! ### small questions asked of keys -/
theorem ofA_tup {n : Nat} {s : Shared} {a : Addr} {o : Obj} {vs : Array Value} {m : Nat} (ho : s.heap.get? a = some o) (hc : o.cls = .type "tuple") (hd : o.data = .seq vs m) {A : Around} {E : Value → Shared → Prop} {Q : Bool → Shared → Prop}
    (ih : ∀ v ∈ vs.toList, ∀ (Q : Bool → Shared → Prop), Q false s → wpAny (model P w) A (ofAClassStatement n v) Q E s) (h : Q false s) : wpAny (model P w) A (ofAClassStatement (n + 1) (.ref a)) Q E s := by
  unfold ofAClassStatement
  refine wpAny_bind (wpAny_typeOf (T := "tuple") ⟨o, ho, hc⟩ ?_)
  dsimp only
  have e : (("tuple" : String) == "tuple") = true := by decide
  simp only [e, if_true, Bool.not_true, Bool.false_eq_true, if_false]
  try refine wpAny_bind (wpAny_pure ?_)
  try simp only [Bool.not_true, Bool.false_eq_true, if_false]
  show wpAny _ _ (seqItems? (.ref a) >>= _) _ _ s
  refine wpAny_bind (wpAny_seqItems ho hd ?_)
  dsimp only
  refine wpAny_bind ?_
  show wpAny _ _ (forIn vs _ _) _ _ s
  rw [← Array.forIn_toList]
  refine wpAny_forIn_list _ (fun rest r s' => r.1 = none ∧ s' = s ∧ ∀ v ∈ rest, v ∈ vs.toList) _ ?_ ?_ _ _ ⟨rfl, rfl, fun v hv => hv⟩
  · rintro v rest r s' ⟨hr, rfl, hall⟩
    refine wpAny_bind (ih v (hall v List.mem_cons_self) _ ?_)
    simp only [Bool.false_eq_true, if_false]
    exact wpAny_pure ⟨rfl, rfl, fun u hu => hall u (List.mem_cons_of_mem _ hu)⟩
  · rintro ⟨r1, r2⟩ s' ⟨hr, rfl, _⟩
    cases hr
    exact wpAny_pure h
mutual
theorem ofA_key : ∀ (k : NestedKey) (v : Value) (n : Nat) (s : Shared), NestedIs s.heap k v → k.depth ≤ n → ∀ {A : Around} {E : Value → Shared → Prop} (Q : Bool → Shared → Prop), Q false s → wpAny (model P w) A (ofAClassStatement n v) Q E s
  | .none, _, n, s, x, _, A, E, Q, h => by cases x; cases n <;> exact wpAny_pure h
  | .num i, _, n, s, x, _, A, E, Q, h => by cases x <;> cases n <;> exact wpAny_pure h
  | .text y, _, n, s, x, _, A, E, Q, h => by cases x; cases n <;> exact wpAny_pure h
  | .tup ks, _, n, s, x, hn, A, E, Q, h => by
    cases x with
    | tup hg hc hd hk =>
      simp only [NestedKey.depth] at hn
      cases n with
      | zero => omega
      | succ n => exact ofA_tup hg hc hd (fun v hv Q hq => ofA_keys ks _ n s hk (by omega) v hv Q hq) h
theorem ofA_keys : ∀ (ks : List NestedKey) (vs : List Value) (n : Nat) (s : Shared), NestedAll s.heap ks vs → NestedKey.depthAll ks ≤ n → ∀ v ∈ vs, ∀ {A : Around} {E : Value → Shared → Prop} (Q : Bool → Shared → Prop), Q false s → wpAny (model P w) A (ofAClassStatement n v) Q E s
  | [], _, n, s, x, _, v, hv, A, E, Q, h => by cases x; cases hv
  | k :: ks, _, n, s, x, hn, v, hv, A, E, Q, h => by
    cases x with
    | cons x1 x2 =>
      simp only [NestedKey.depthAll] at hn
      rcases List.mem_cons.mp hv with e | hv
      · rw [e]; exact ofA_key k _ n s x1 (by omega) Q h
      · exact ofA_keys ks _ n s x2 (by omega) v hv Q h
end
theorem hash_tup {n : Nat} {s : Shared} {a : Addr} {o : Obj} {vs : Array Value} {m : Nat} (ho : s.heap.get? a = some o) (hc : o.cls = .type "tuple") (hd : o.data = .seq vs m) {A : Around} {E : Value → Shared → Prop} {Q : Bool → Shared → Prop}
    (ih : ∀ v ∈ vs.toList, ∀ (Q : Bool → Shared → Prop), (∀ b, Q b s) → wpAny (model P w) A (hashByValue n v) Q E s) (h : ∀ b, Q b s) : wpAny (model P w) A (hashByValue (n + 1) (.ref a)) Q E s := by
  unfold hashByValue
  refine wpAny_bind (wpAny_specialOf (T := "tuple") ⟨o, ho, hc⟩ F.slot_tuple_hash.lookup ?_)
  show wpAny _ _ (seqItems? (.ref a) >>= _) _ _ s
  refine wpAny_bind (wpAny_seqItems ho hd ?_)
  refine wpAny_bind ?_
  show wpAny _ _ (forIn vs _ _) _ _ s
  rw [← Array.forIn_toList]
  refine wpAny_forIn_list _ (fun rest r s' => r.1 = none ∧ s' = s ∧ ∀ v ∈ rest, v ∈ vs.toList) _ ?_ ?_ _ _ ⟨rfl, rfl, fun v hv => hv⟩
  · rintro v rest r s' ⟨hr, rfl, hall⟩
    refine wpAny_bind (ih v (hall v List.mem_cons_self) _ fun b => ?_)
    cases b with
    | false =>
      simp only [Bool.not_false, if_true]
      exact wpAny_pure (wpAny_pure (h false))
    | true =>
      simp only [Bool.not_true, Bool.false_eq_true, if_false]
      exact wpAny_pure ⟨rfl, rfl, fun u hu => hall u (List.mem_cons_of_mem _ hu)⟩
  · rintro ⟨r1, r2⟩ s' ⟨hr, rfl, _⟩
    cases hr
    exact wpAny_pure (h true)
mutual
theorem hash_key : ∀ (k : NestedKey) (v : Value) (n : Nat) (s : Shared), NestedIs s.heap k v → k.depth ≤ n → ∀ {A : Around} {E : Value → Shared → Prop} (Q : Bool → Shared → Prop), (∀ b, Q b s) → wpAny (model P w) A (hashByValue n v) Q E s
  | .none, _, n, s, x, _, A, E, Q, h => by cases x; cases n <;> exact wpAny_pure (h _)
  | .num i, _, n, s, x, _, A, E, Q, h => by cases x <;> cases n <;> exact wpAny_pure (h _)
  | .text y, _, n, s, x, _, A, E, Q, h => by cases x; cases n <;> exact wpAny_pure (h _)
  | .tup ks, _, n, s, x, hn, A, E, Q, h => by
    cases x with
    | tup hg hc hd hk =>
      simp only [NestedKey.depth] at hn
      cases n with
      | zero => omega
      | succ n => exact hash_tup hg hc hd (fun v hv Q hq => hash_keys ks _ n s hk (by omega) v hv Q hq) h
theorem hash_keys : ∀ (ks : List NestedKey) (vs : List Value) (n : Nat) (s : Shared), NestedAll s.heap ks vs → NestedKey.depthAll ks ≤ n → ∀ v ∈ vs, ∀ {A : Around} {E : Value → Shared → Prop} (Q : Bool → Shared → Prop), (∀ b, Q b s) → wpAny (model P w) A (hashByValue n v) Q E s
  | [], _, n, s, x, _, v, hv, A, E, Q, h => by cases x; cases hv
  | k :: ks, _, n, s, x, hn, v, hv, A, E, Q, h => by
    cases x with
    | cons x1 x2 =>
      simp only [NestedKey.depthAll] at hn
      rcases List.mem_cons.mp hv with e | hv
      · rw [e]; exact hash_key k _ n s x1 (by omega) Q h
      · exact hash_keys ks _ n s x2 (by omega) v hv Q h
end
/-- the search among keys shows nothing -/
theorem unseen {A : Around} {E : Value → Shared → Prop} {s : Shared} {Q : Bool → Shared → Prop} {k : NestedKey} {b : Addr} (hk : IsN s.heap k b) {ys : List Value} (hy : ∀ y ∈ ys, ∃ k' c, y = Value.ref c ∧ IsN s.heap k' c) (h : Q false s) :
    wpAny (model P w) A (searchCouldBeSeen (.ref b) ys) Q E s := by
  unfold searchCouldBeSeen
  refine wpAny_bind ?_
  refine wpAny_forIn_list _ (fun rest r s' => r.1 = none ∧ s' = s ∧ ∀ y ∈ rest, y ∈ ys) _ ?_ ?_ _ _ ⟨rfl, rfl, fun y hy => hy⟩
  · rintro v rest r s' ⟨hr, rfl, hall⟩
    obtain ⟨k', c, rfl, hc⟩ := hy v (hall v List.mem_cons_self)
    have go : ∀ y ∈ rest, y ∈ ys := fun u hu => hall u (List.mem_cons_of_mem _ hu)
    dsimp only
    by_cases z : (b == c || (carriedByValue (.ref b) && carriedByValue (.ref c))) = true
    · exact wp_if_pos z (wpAny_pure ⟨rfl, rfl, go⟩)
    · refine wp_if_neg z ?_
      refine wpAny_bind (quiet_key k _ 8 s' hk.1 hk.2 _ _ _ ?_)
      simp only [Bool.not_true, Bool.false_eq_true, if_false]
      refine wpAny_bind (quiet_key k' _ 8 s' hc.1 hc.2 _ _ _ ?_)
      simp only [Bool.not_true, Bool.false_eq_true, if_false]
      refine wpAny_bind (ofA_key k _ 8 s' hk.1 hk.2 _ ?_)
      simp only [Bool.false_eq_true, if_false]
      refine wpAny_bind (ofA_key k' _ 8 s' hc.1 hc.2 _ ?_)
      simp only [Bool.false_eq_true, if_false]
      exact wpAny_pure ⟨rfl, rfl, go⟩
  · rintro ⟨r1, r2⟩ s' ⟨hr, rfl, _⟩
    cases hr
    exact wpAny_pure h
/-! ### the set -/
def rws (w : World) (L : KL) : List (Int × Value) := L.map fun p => (kh w p.2, Value.ref p.1)
abbrev hsh (w : World) (L : KL) : List Int := L.map fun p => kh w p.2
/-- the rows of the set at a, and its table; nothing is said of whether the hashes are by value -/
structure SetK (w : World) (h : Heap) (a : Addr) (L : KL) (es : Array (Int × Value)) (ep : Nat) (t : SetTable) : Prop where
  ob : ∃ o, h.get? a = some o ∧ o.ExactSet ∧ o.data = .set es ep t
  rows : es.toList = rws w L
  tab : TabOk t (hsh w L)
  nd : (L.map (·.2)).Nodup
  keys : ∀ p ∈ L, IsN h p.2 p.1
  led : w.params.followText "set-order" = true ∨ t.led = true
  room : L.length * 5 < t.mask * 3
  few : L.length < 64
section
variable {A : Around} {E : Value → Shared → Prop} {s : Shared} {a : Addr} {L : KL} {es : Array (Int × Value)} {ep : Nat} {t : SetTable}
theorem rws_len (L : KL) (h : es.toList = rws w L) : es.size = L.length := by
  rw [← Array.length_toList, h]
  unfold rws
  rw [List.length_map]
theorem rws_at (h : es.toList = rws w L) {i : Nat} {p : Addr × NestedKey} (e : L[i]? = some p) : es[i]? = some (kh w p.2, Value.ref p.1) := by
  rw [← Array.getElem?_toList, h]
  unfold rws
  rw [List.getElem?_map, e]
  rfl
theorem fits_of {hs : List Int} (T : TabOk t hs) (hn : hs.length ≤ t.mask) {n : Nat} (e : n = hs.length) : t.fits n = true := by
  have := T.sz
  unfold SetTable.fits SetTable.fill
  rw [T.dm, Bool.and_eq_true, beq_iff_eq, decide_eq_true_eq]
  refine ⟨by omega, ?_⟩
  show t.place.size + 0 ≤ t.mask
  omega
theorem SetK.fits (R : SetK w s.heap a L es ep t) : t.fits es.size = true := by
  have h := R.room
  have hl : (hsh w L).length = L.length := List.length_map _
  exact fits_of R.tab (by omega) (by rw [rws_len L R.rows, hl])
/-- the way's probes carry no dummy -/
theorem no_dummy (m i b : Nat) : ∀ c, (nth m (runAt m i b) c).dummy = none := by
  have key : ∀ (c : Nat) (p : SetTable.Probe), p.dummy = none → (nth m p c).dummy = none := by
    intro c
    induction c with
    | zero => exact fun p h => h
    | succ c ih => exact fun p h => ih _ (by unfold adv; split <;> exact h)
  exact fun c => key c _ rfl
abbrev prb (m : Nat) (h : Int) (c : Nat) : SetTable.Probe := nth m (runAt m (SetTable.bits h % (m + 1)) (SetTable.bits h)) c
theorem prb_add (m : Nat) (h : Int) (c q : Nat) : nth m (prb m h c) q = prb m h (c + q) := (nth_add m c _ q).symm
/-- the search from the c-th step on; K is the first empty step, and no row with the key was passed -/
theorem search_go (R : SetK w s.heap a L es ep t) {x : Addr} {k : NestedKey} (hx : IsN s.heap k x) (hu : A.units + 8 < cLine) {K : Nat} (hKf : K < 10 * SetTable.turns t.mask)
    (hK : way t.mask (kh w k) K ∉ t.place.toList) (hKb : ∀ c, c < K → way t.mask (kh w k) c ∈ t.place.toList) {Q : SetFound → Shared → Prop}
    (hin : k ∈ L.map (·.2) → Q (.there none) s) (hout : k ∉ L.map (·.2) → Q (.free (way t.mask (kh w k) K) false) s) :
    ∀ (f c : Nat) (stand : Option SetTable.Probe), stand.getD (t.probeStart (kh w k)) = prb t.mask (kh w k) c → c ≤ K → K - c < f →
      (∀ (i : Nat) p, L[i]? = some p → p.2 = k → ∃ c', c ≤ c' ∧ c' < K ∧ t.place.toList[i]? = some (way t.mask (kh w k) c')) →
      wpAny (model P w) A (setSearchFrom a (.ref x) (kh w k) true f stand) Q E s := by
  intro f
  induction f with
  | zero => intro c stand _ _ hf; exact absurd hf (Nat.not_lt_zero _)
  | succ f ih =>
    intro c stand hst hc hf hre
    obtain ⟨o, ho, hex, hd⟩ := R.ob
    have lK : (hsh w L).length = L.length := List.length_map _
    have gw : ¬ t.gaveWay = true := by
      unfold SetTable.gaveWay
      rw [mask_odd R.tab.mok]
      decide
    have wy : ∀ q, (nth t.mask (prb t.mask (kh w k) c) q).j = way t.mask (kh w k) (c + q) := fun q => congrArg SetTable.Probe.j (prb_add _ _ c q)
    have hashAt : ∀ (i : Nat) p, L[i]? = some p → (es[i]?.map (·.1)).getD 0 = kh w p.2 := fun i p hp => by
      rw [rws_at R.rows hp]
      rfl
    rw [setSearchFrom_succ]
    refine wpAny_bind (wpAny_setState_of ho hd R.fits ?_)
    dsimp only
    refine wp_if_neg gw ?_
    try refine wpAny_bind (wpAny_pure ?_)
    rcases go_spec t R.tab.ris R.tab.dm (fun i => (es[i]?.map (·.1)).getD 0) (kh w k) (10 * SetTable.turns t.mask) (K - c) (prb t.mask (kh w k) c) (no_dummy _ _ _ c) (by omega)
      (fun q hq => by rw [wy]; exact hKb (c + q) (by omega)) (by rw [wy, show c + (K - c) = K by omega]; exact hK) with ⟨q, i, hq, hi, hh, hno, hpr⟩ | ⟨hno, hpr⟩
    · rw [wy, prb_add] at hpr
      rw [wy] at hi
      have hpr' : t.probe (fun i => (es[i]?.map (·.1)).getD 0) (kh w k) (stand.getD (t.probeStart (kh w k))) = some (.candidate (way t.mask (kh w k) (c + q)) i (prb t.mask (kh w k) (c + (q + 1)))) := by
        rw [hst]
        exact hpr
      rw [hpr']
      dsimp only
      have hil : i < L.length := by
        have h1 : i < t.place.toList.length := (List.getElem?_eq_some_iff.mp hi).1
        have h2 := R.tab.sz
        rw [Array.length_toList] at h1
        omega
      obtain ⟨p, hp⟩ : ∃ p, L[i]? = some p := ⟨_, List.getElem?_eq_getElem hil⟩
      have hpm : p ∈ L := List.mem_of_getElem? hp
      have hsl : t.slot (way t.mask (kh w k) (c + q)) = .live i := slot_live R.tab.ris hi
      have rest : wpAny (model P w) A (searchRest a (.ref x) (kh w k) true f es t (way t.mask (kh w k) (c + q)) i (prb t.mask (kh w k) (c + (q + 1)))) Q E s := by
        unfold searchRest
        rw [rws_at R.rows hp]
        dsimp only
        refine wpAny_bind (wpAny_holding ((nestedKind P w).eqBool (x := p.2) (y := k) hu (R.keys p hpm) hx ?_))
        refine wpAny_bind (wpAny_setState_of ho hd R.fits ?_)
        dsimp only
        by_cases hkk : p.2 = k
        · exact wp_if_pos (by simp [hkk]) (wpAny_pure (hin (List.mem_map.mpr ⟨p, hpm, hkk⟩)))
        · refine wp_if_neg (by simp [hkk]) ?_
          try refine wpAny_bind (wpAny_pure ?_)
          rw [sameMem]
          dsimp only
          simp only [if_true, hsl, rws_at R.rows hp]
          refine wpAny_bind (wpAny_isSame_ref_self (wpAny_bind (wpAny_pure ?_)))
          simp only [if_true]
          refine wp_if_neg (by simp [hkk]) ?_
          refine ih (c + (q + 1)) _ rfl (by omega) (by omega) fun i0 p0 h0 hk0 => ?_
          obtain ⟨c', a1, a2, a3⟩ := hre i0 p0 h0 hk0
          refine ⟨c', ?_, a2, a3⟩
          rcases Nat.lt_trichotomy c' (c + q) with z | z | z
          · exact absurd ((hashAt i0 p0 h0).trans (congrArg (kh w) hk0)) (hno (c' - c) i0 (by omega) (by rw [wy, show c + (c' - c) = c' by omega]; exact a3))
          · exfalso
            rw [z] at a3
            have s0 := slot_live R.tab.ris a3
            rw [hsl] at s0
            injection s0 with s0
            rw [← s0, hp] at h0
            exact hkk ((congrArg Prod.snd (Option.some.inj h0)).trans hk0)
          · omega
      by_cases hl : t.led = true
      · refine wp_if_neg (by simp [hl]) ?_
        try refine wpAny_bind (wpAny_pure ?_)
        exact rest
      · refine wp_if_pos (by simp [hl]) ?_
        refine wpAny_bind (unseen hx (fun y hy => ?_) ?_)
        · obtain ⟨e, he, ee⟩ := List.mem_map.mp hy
          have he2 : e ∈ es.toList := by
            have he1 : e ∈ es ∧ e.1 = kh w k := by simpa using he
            simpa using he1.1
          rw [R.rows] at he2
          obtain ⟨p2, hp2, e2⟩ := List.mem_map.mp he2
          exact ⟨p2.2, p2.1, by rw [← ee, ← e2], R.keys p2 hp2⟩
        · refine wp_if_neg (by decide) ?_
          try refine wpAny_bind (wpAny_pure ?_)
          exact rest
    · rw [wy, show c + (K - c) = K by omega] at hpr
      have hpr' : t.probe (fun i => (es[i]?.map (·.1)).getD 0) (kh w k) (stand.getD (t.probeStart (kh w k))) = some (.empty (way t.mask (kh w k) K) none) := by
        rw [hst]
        exact hpr
      rw [hpr']
      dsimp only
      refine wpAny_pure (hout fun hm => ?_)
      obtain ⟨p0, h0, hk0⟩ := List.mem_map.mp hm
      obtain ⟨i0, hi0⟩ := List.mem_iff_getElem?.mp h0
      obtain ⟨c', a1, a2, a3⟩ := hre i0 p0 hi0 hk0
      exact hno (c' - c) i0 (by omega) (by rw [wy, show c + (c' - c) = c' by omega]; exact a3) ((hashAt i0 p0 hi0).trans (congrArg (kh w) hk0))
theorem search_whole (R : SetK w s.heap a L es ep t) {x : Addr} {k : NestedKey} (hx : IsN s.heap k x) (hu : A.units + 8 < cLine) {Q : SetFound → Shared → Prop} (hin : k ∈ L.map (·.2) → Q (.there none) s)
    (hout : ∀ K, k ∉ L.map (·.2) → way t.mask (kh w k) K ∉ t.place.toList → (∀ c, c < K → way t.mask (kh w k) c ∈ t.place.toList) → Q (.free (way t.mask (kh w k) K) false) s) :
    wpAny (model P w) A (setSearch a (.ref x) (kh w k) true) Q E s := by
  have lK : (hsh w L).length = L.length := List.length_map _
  have hroom := R.room
  obtain ⟨K, hKf, hK, hKb⟩ := R.tab.first (by omega) (kh w k)
  have hbig : K < 100000 := by
    have : 10 * SetTable.turns t.mask ≤ 1420 := by
      unfold SetTable.turns
      rcases R.tab.mok with e | e | e <;> omega
    omega
  unfold setSearch
  refine search_go R hx hu hKf hK hKb hin (fun hn => hout K hn hK hKb) 100000 0 none rfl (Nat.zero_le _) (by omega) fun i p hp hk => ?_
  have hi : (hsh w L)[i]? = some (kh w k) := by rw [List.getElem?_map, hp, ← hk]; rfl
  have hil : i < t.place.toList.length := by
    have h1 : i < L.length := (List.getElem?_eq_some_iff.mp hp).1
    have h2 := R.tab.sz
    rw [Array.length_toList]
    omega
  have hj := List.getElem?_eq_getElem hil
  obtain ⟨c, hc, e⟩ := R.tab.before hK hi hj
  exact ⟨c, Nat.zero_le _, hc, by rw [hj, e]⟩
end
/-! ### adding -/
section
variable {A : Around} {E : Value → Shared → Prop} {s : Shared} {a : Addr} {L : KL} {es : Array (Int × Value)} {ep : Nat} {t : SetTable}
/-- the rows in another order -/
theorem reorder (order : Array Nat) (hr : es.toList = rws w L) (hp : order.toList.Perm (List.range L.length)) :
    ∃ L2 : KL, (order.filterMap (es[·]?)).toList = rws w L2 ∧ L2.Perm L ∧ hsh w L2 = order.toList.map fun i => (es.map (·.1)).getD i 0 := by
  have key : ∀ l : List Nat, (∀ i ∈ l, i < L.length) → ∃ L2 : KL, l.filterMap (fun i => es[i]?) = rws w L2 ∧ L2 = l.filterMap (fun i => L[i]?) ∧ hsh w L2 = l.map fun i => (es.map (·.1)).getD i 0 := by
    intro l
    induction l with
    | nil => exact fun _ => ⟨[], rfl, rfl, rfl⟩
    | cons i l ih =>
      intro hl
      obtain ⟨p, hp⟩ : ∃ p, L[i]? = some p := ⟨_, List.getElem?_eq_getElem (hl i List.mem_cons_self)⟩
      have he := rws_at hr hp
      obtain ⟨L2, e1, e2, e3⟩ := ih fun j hj => hl j (List.mem_cons_of_mem _ hj)
      refine ⟨p :: L2, ?_, ?_, ?_⟩
      · rw [List.filterMap_cons_some he, e1]
        rfl
      · rw [List.filterMap_cons_some hp, e2]
      · have g : (es.map (·.1)).getD i 0 = kh w p.2 := by
          have : (es.map (·.1))[i]? = some (kh w p.2) := by rw [Array.getElem?_map, he]; rfl
          simp [Array.getD_eq_getD_getElem?, this]
        show kh w p.2 :: hsh w L2 = _
        rw [List.map_cons, e3, g]
  obtain ⟨L2, e1, e2, e3⟩ := key order.toList fun i hi => List.mem_range.mp (hp.mem_iff.mp hi)
  refine ⟨L2, by rw [Array.toList_filterMap]; exact e1, ?_, e3⟩
  have all : ∀ n, n ≤ L.length → (List.range n).filterMap (fun i => L[i]?) = L.take n := by
    intro n
    induction n with
    | zero => exact fun _ => rfl
    | succ n ih =>
      intro hn
      rw [List.range_succ, List.filterMap_append, ih (Nat.le_of_lt hn), List.take_succ, List.getElem?_eq_getElem hn]
      rw [List.filterMap_cons_some (List.getElem?_eq_getElem hn)]
      rfl
  have z := hp.filterMap fun i => L[i]?
  rw [all _ (Nat.le_refl _), List.take_length, ← e2] at z
  exact z
/-- what holds of the rows before the table is laid anew -/
structure PreK (w : World) (h : Heap) (a : Addr) (L : KL) (es : Array (Int × Value)) (ep : Nat) (t : SetTable) : Prop where
  ob : ∃ o, h.get? a = some o ∧ o.ExactSet ∧ o.data = .set es ep t
  rows : es.toList = rws w L
  tab : TabOk t (hsh w L)
  nd : (L.map (·.2)).Nodup
  keys : ∀ p ∈ L, IsN h p.2 p.1
  led : w.params.followText "set-order" = true ∨ t.led = true
  fit : L.length ≤ t.mask
  few : L.length < 64
theorem relay (R : PreK w s.heap a L es ep t) {wanted M : Nat} (hw : SetTable.sizeAbove wanted - 1 = M) (hM : MaskOk M) (h128 : SetTable.sizeAbove wanted ≤ 128) (hn : L.length * 5 < M * 3) {Q : Unit → Shared → Prop}
    (hQ : ∀ h' L' es' ep' t', Heap.SameBut a s.heap h' → SetK w h' a L' es' ep' t' → L'.Perm L → Q () { s with heap := h' }) : wpAny (model P w) A (setRelay a wanted) Q E s := by
  obtain ⟨o, ho, hex, hd⟩ := R.ob
  have lK : (hsh w L).length = L.length := List.length_map _
  have hsl := rws_len L R.rows
  have few := R.few
  obtain ⟨t', order, e, hp, T, em, el, _, _⟩ := relaid_ok t (hs := es.map (·.1)) (wanted := wanted) hw hM (by rw [Array.size_map, hsl]; omega)
  rw [Array.size_map, hsl] at hp
  obtain ⟨L2, r1, r2, r3⟩ := reorder order R.rows hp
  rw [← r3] at T
  have l2 := r2.length_eq
  have hs2 : (order.filterMap (es[·]?)).size = L.length := (rws_len L2 r1).trans l2
  rw [setRelay_eq]
  refine wpAny_bind (wpAny_setState_of ho hd (fits_of R.tab (by rw [lK]; exact R.fit) (by rw [hsl, lK])) ?_)
  dsimp only
  refine wp_if_neg (by rw [sizeLine_eq]; omega) ?_
  try refine wpAny_bind (wpAny_pure ?_)
  rw [e]
  dsimp only
  refine wpAny_bind ?_
  refine wp_if_neg (by rw [hs2, hsl]; simp) ?_
  try refine wpAny_bind (wpAny_pure ?_)
  refine wpAny_pure ?_
  dsimp only
  refine wpAny_storeSet_of ho hd ?_ (by rw [hs2, sizeLine_eq]; omega)
  have sb : Heap.SameBut a s.heap (s.heap.update a (Obj.putSet (order.filterMap (es[·]?)) t')) := Heap.SameBut.update ..
  refine hQ _ L2 (order.filterMap (es[·]?)) (ep + 1) t' sb ⟨⟨_, store_at ho hd, ⟨hex.1, hex.2.1, hex.2.2⟩, rfl⟩, r1, T, (r2.map (·.2)).nodup_iff.mpr R.nd, fun p hpm => (R.keys p (r2.mem_iff.mp hpm)).but ho hd sb, by rw [el]; exact R.led, ?_, by omega⟩ r2
  rw [l2, em]
  exact hn
theorem add_key (R : SetK w s.heap a L es ep t) {x : Addr} {k : NestedKey} (hx : IsN s.heap k x) (hu : A.units + 8 < cLine) (hfew : L.length + 1 < 64) {Q : Bool → Shared → Prop}
    (hQ : ∀ b h' L' es' ep' t', Heap.SameBut a s.heap h' → SetK w h' a L' es' ep' t' → (k ∈ L.map (·.2) → L' = L) → (k ∉ L.map (·.2) → L'.Perm ((x, k) :: L)) → Q b { s with heap := h' }) :
    wpAny (model P w) A (setAddHashed a (.ref x) (kh w k)) Q E s := by
  obtain ⟨o, ho, hex, hd⟩ := R.ob
  have lK : (hsh w L).length = L.length := List.length_map _
  have hsl := rws_len L R.rows
  have hroom := R.room
  unfold setAddHashed
  refine wpAny_holding ?_
  rw [show (100000 : Nat) = 99999 + 1 from rfl, setAddHashedIn_succ]
  refine wpAny_bind (wpAny_setState_of ho hd R.fits ?_)
  dsimp only
  refine wp_if_neg (by simp [byScan, Value.scannable]) ?_
  try refine wpAny_bind (wpAny_pure ?_)
  refine wpAny_bind (search_whole R hx hu (fun hm => ?_) fun K hm hK hb => ?_)
  · dsimp only
    exact wpAny_pure (hQ false s.heap L es ep t (Heap.SameBut.refl a s.heap) R (fun _ => rfl) fun z => absurd hm z)
  dsimp only
  refine wpAny_bind (wpAny_setState_of ho hd R.fits ?_)
  dsimp only
  obtain ⟨q1, q2, q3, q4, q5, _, _, _, q9⟩ := R.tab.put hK hb
  generalize hpt : t.put (way t.mask (kh w k) K) = pt at q1 q3 q4 q5 q9 ⊢
  obtain ⟨t1, p⟩ := pt
  dsimp only at q1 q3 q4 q5 q9 ⊢
  subst q1
  -- whatever is found out of the hash: the table with a mark
  have mark : ∀ (b : Bool), wpAny (model P w) A (do
      storeSet a (SetTable.insertAt es (SetTable.below t.place (way t.mask (kh w k) K)) (kh w k, Value.ref x)) (if b = true then t1 else { t1 with plain := false })
      if (!false && (if b = true then t1 else { t1 with plain := false }).tooFull) = true then setRelay a (SetTable.grown (es.size + 1))
      return true) Q E s := by
    intro b
    have ht : (if b = true then t1 else { t1 with plain := false }).place = t1.place ∧ (if b = true then t1 else { t1 with plain := false }).mask = t1.mask ∧ (if b = true then t1 else { t1 with plain := false }).dummies = t1.dummies ∧ (if b = true then t1 else { t1 with plain := false }).led = t1.led := by
      cases b <;> exact ⟨rfl, rfl, rfl, rfl⟩
    generalize (if b = true then t1 else { t1 with plain := false }) = t2 at ht ⊢
    obtain ⟨u1, u2, u3, u4⟩ := ht
    have T2 : TabOk t2 ((hsh w L).take (SetTable.below t.place (way t.mask (kh w k) K)) ++ kh w k :: (hsh w L).drop (SetTable.below t.place (way t.mask (kh w k) K))) := by
      have r := q3.reach
      rw [← u2, ← u1] at r
      exact ⟨by rw [u1]; exact q3.ris, by rw [u3]; exact q3.dm, by rw [u1]; exact q3.sz, by rw [u2]; exact q3.mok, by rw [u1, u2]; exact q3.bd, r⟩
    have pm := put_perm L (SetTable.below t.place (way t.mask (kh w k) K)) (x, k)
    have hin : (SetTable.insertAt es (SetTable.below t.place (way t.mask (kh w k) K)) (kh w k, Value.ref x)).toList = rws w (L.take (SetTable.below t.place (way t.mask (kh w k) K)) ++ (x, k) :: L.drop (SetTable.below t.place (way t.mask (kh w k) K))) := by
      rw [SetTable.toList_insertAt, R.rows]
      unfold rws
      rw [List.map_append, List.map_cons, List.map_take, List.map_drop]
    have hhs : hsh w (L.take (SetTable.below t.place (way t.mask (kh w k) K)) ++ (x, k) :: L.drop (SetTable.below t.place (way t.mask (kh w k) K))) = (hsh w L).take (SetTable.below t.place (way t.mask (kh w k) K)) ++ kh w k :: (hsh w L).drop (SetTable.below t.place (way t.mask (kh w k) K)) := by
      unfold hsh
      rw [List.map_append, List.map_cons, List.map_take, List.map_drop]
    rw [← hhs] at T2
    generalize L.take (SetTable.below t.place (way t.mask (kh w k) K)) ++ (x, k) :: L.drop (SetTable.below t.place (way t.mask (kh w k) K)) = L1 at pm T2 hin
    generalize SetTable.insertAt es (SetTable.below t.place (way t.mask (kh w k) K)) (kh w k, Value.ref x) = es1 at hin ⊢
    have hlen : L1.length = L.length + 1 := pm.length_eq
    have lK1 : (hsh w L1).length = L1.length := List.length_map _
    have hes := rws_len L1 hin
    have nd1 : (L1.map (·.2)).Nodup := (pm.map (·.2)).nodup_iff.mpr (by rw [List.map_cons]; exact List.nodup_cons.mpr ⟨hm, R.nd⟩)
    refine wpAny_bind (wpAny_storeSet_of ho hd ?_ (by rw [hes, sizeLine_eq]; omega))
    have sb : Heap.SameBut a s.heap (s.heap.update a (Obj.putSet es1 t2)) := Heap.SameBut.update ..
    have ho1 := store_at (es' := es1) (t' := t2) ho hd
    generalize s.heap.update a (Obj.putSet es1 t2) = h1 at sb ho1 ⊢
    have keys1 : ∀ p ∈ L1, IsN h1 p.2 p.1 := fun p hp => by
      rcases List.mem_cons.mp (pm.mem_iff.mp hp) with e | hp
      · rw [e]; exact hx.but ho hd sb
      · exact (R.keys p hp).but ho hd sb
    have ld1 : w.params.followText "set-order" = true ∨ t2.led = true := by rw [u4, q5]; exact R.led
    have fl : t2.fill = L.length + 1 := by
      have : t2.fill = t1.fill := by unfold SetTable.fill; rw [u1, u3]
      rw [this, q9, lK]
    have fullE : t2.tooFull = decide ((L.length + 1) * 5 ≥ t2.mask * 3) := by
      unfold SetTable.tooFull
      rw [fl]
    have m2 : t2.mask = t.mask := u2.trans q4
    by_cases hf : t2.tooFull = true
    · first
        | (refine wpAny_bind ?_; refine wp_if_pos (by simp [hf]) ?_)
        | (refine wp_if_pos (by simp [hf]) ?_; refine wpAny_bind ?_)
      rw [fullE, decide_eq_true_eq] at hf
      rw [hsl]
      have go : ∀ M, SetTable.sizeAbove (SetTable.grown (L.length + 1)) - 1 = M → MaskOk M → SetTable.sizeAbove (SetTable.grown (L.length + 1)) ≤ 128 → (L.length + 1) * 5 < M * 3 →
          wpAny (model P w) A (setRelay a (SetTable.grown (L.length + 1))) (fun _ s' => wpAny (model P w) A (pure true) Q E s') E { s with heap := h1 } := fun M g1 g2 g3 g4 =>
        relay (s := { s with heap := h1 }) ⟨⟨_, ho1, ⟨hex.1, hex.2.1, hex.2.2⟩, rfl⟩, hin, T2, nd1, keys1, ld1, by omega, by omega⟩ g1 g2 g3 (by rw [hlen]; exact g4) fun h2 L2 es2 ep2 t3 sb2 R2 pm2 =>
          wpAny_pure (hQ true h2 L2 es2 ep2 t3 (sb.trans sb2) R2 (fun z => absurd z hm) fun _ => pm2.trans pm)
      rcases R.tab.mok with e | e | e
      · have e2 : L.length = 4 := by rw [m2, e] at hf; rw [e] at hroom; omega
        exact go 31 (by rw [e2, size_20]) (.inr (.inl rfl)) (by rw [e2, size_20]; decide) (by omega)
      · have e2 : L.length = 18 := by rw [m2, e] at hf; rw [e] at hroom; omega
        exact go 127 (by rw [e2, size_76]) (.inr (.inr rfl)) (by rw [e2, size_76]; decide) (by omega)
      · rw [m2, e] at hf
        omega
    · first
        | refine wp_if_neg (by simp [hf]) ?_
        | (refine wpAny_bind ?_; refine wp_if_neg (by simp [hf]) ?_; refine wpAny_pure ?_)
      refine wpAny_pure (hQ true h1 L1 es1 (ep + 1) t2 sb ⟨⟨_, ho1, ⟨hex.1, hex.2.1, hex.2.2⟩, rfl⟩, hin, T2, nd1, keys1, ld1, ?_, by omega⟩ (fun z => absurd z hm) fun _ => pm)
      rw [fullE, decide_eq_true_eq] at hf
      omega
  by_cases hp1 : t1.plain = true
  · first
      | (refine wpAny_bind ?_; refine wp_if_pos hp1 ?_; refine hash_key k _ 8 s hx.1 hx.2 _ fun b => ?_)
      | refine wp_if_pos hp1 (wpAny_bind (hash_key k _ 8 s hx.1 hx.2 _ fun b => ?_))
    exact mark b
  · first
      | (refine wpAny_bind ?_; refine wp_if_neg hp1 ?_; refine wpAny_pure ?_)
      | refine wp_if_neg hp1 ?_
    exact mark true
end
/-! ### set(..) -/
/-- what the set has of the first i items -/
structure Had (ks : KL) (i : Nat) (L : KL) : Prop where
  sub : ∀ p ∈ L, p ∈ ks.take i
  all : ∀ p ∈ ks.take i, p.2 ∈ L.map (·.2)
  len : L.length ≤ i
theorem Had.step {ks L L' : KL} {i : Nat} {x : Addr × NestedKey} (g : Had ks i L) (h : ks[i]? = some x) (c1 : x.2 ∈ L.map (·.2) → L' = L) (c2 : x.2 ∉ L.map (·.2) → L'.Perm (x :: L)) : Had ks (i + 1) L' := by
  have tn := take_next h
  rcases Classical.em (x.2 ∈ L.map (·.2)) with c | c
  · rw [c1 c]
    refine ⟨fun p hp => by rw [tn]; exact List.mem_append_left _ (g.sub p hp), fun p hp => ?_, Nat.le_succ_of_le g.len⟩
    rw [tn] at hp
    rcases List.mem_append.mp hp with z | z
    · exact g.all p z
    · rw [List.mem_singleton.mp z]; exact c
  · have pm := c2 c
    refine ⟨fun p hp => ?_, fun p hp => ?_, by rw [pm.length_eq]; exact Nat.succ_le_succ g.len⟩
    · rw [tn]
      rcases List.mem_cons.mp (pm.mem_iff.mp hp) with e | z
      · rw [e]; exact List.mem_append_right _ (List.mem_singleton.mpr rfl)
      · exact List.mem_append_left _ (g.sub p z)
    · rw [(pm.map (·.2)).mem_iff, List.map_cons]
      rw [tn] at hp
      rcases List.mem_append.mp hp with z | z
      · exact List.mem_cons_of_mem _ (g.all p z)
      · rw [List.mem_singleton.mp z]; exact List.mem_cons_self
abbrev newSet (w : World) : Obj := { cls := .type "set", dict := none, data := .set #[] 0 (.fresh 0 0 (!w.params.followText "set-order")) }
theorem fresh_key {h : Heap} {a : Addr} (ho : h.get? a = some (newSet w)) : SetK w h a [] #[] 0 (.fresh 0 0 (!w.params.followText "set-order")) where
  ob := ⟨_, ho, ⟨rfl, rfl, rfl⟩, rfl⟩
  rows := rfl
  tab := ⟨List.Pairwise.nil, rfl, rfl, .inl rfl, fun x hx => (by cases hx), fun i h j hi => (by simp at hi)⟩
  nd := List.nodup_nil
  keys := fun p hp => (by cases hp)
  led := by
    show _ ∨ (!w.params.followText "set-order") = true
    cases w.params.followText "set-order"
    · exact .inr rfl
    · exact .inl rfl
  room := by show 0 * 5 < 7 * 3; decide
  few := by show 0 < 64; decide
theorem SetK.keep {h h' : Heap} {a : Addr} {L : KL} {es : Array (Int × Value)} {ep : Nat} {t : SetTable} (R : SetK w h a L es ep t) (ha : ∀ o, h.get? a = some o → h'.get? a = some o) (hk : ∀ p ∈ L, IsN h' p.2 p.1) : SetK w h' a L es ep t := by
  obtain ⟨o, ho, r⟩ := R.ob
  exact { R with ob := ⟨o, ha o ho, r⟩, keys := hk }
section
variable {A : Around} {E : Value → Shared → Prop} {s : Shared}
theorem fill_set {I : Addr} {fp wr : List Addr} {G : Array GenState → Array GenState → Prop} {n : Nat} {Pv : Nat → Value → Prop} {St : Nat → Shared → Prop} {R : Result → Shared → Prop} (W : WalksS P w A.in1 I fp wr G n Pv St) (S : Addr) (hSf : S ∉ fp)
    (ks : KL) (hn : n = ks.length) (hfew : ks.length < 64) (hval : ∀ i v, Pv i v → ∃ p, ks[i]? = some p ∧ v = .ref p.1) (h0 : Heap) (hk : ∀ p ∈ ks, IsN h0 p.2 p.1) (hS0 : h0.get? S = none) (hw0 : ∀ b ∈ wr, h0.get? b = none) (hu : A.in1.units + 8 < cLine) :
    ∀ (k i : Nat) (s : Shared), n - i = k → i ≤ n → St i s → (∀ b o, h0.get? b = some o → s.heap.get? b = some o) → (∃ L es ep t, SetK w s.heap S L es ep t ∧ Had ks i L) →
      (∀ s' L es ep t, Moved (S :: wr) G s s' → SetK w s'.heap S L es ep t → Had ks n L → (∀ b o, h0.get? b = some o → s'.heap.get? b = some o) → R (.ok (.ret .none)) s') →
      codeAny (model P w) A (.builtin "set.update.loop" ⟨[.ref S, .ref I], []⟩) R s := by
  have hSw : S ∉ wr := fun h => hSf (W.sub _ h)
  have up : ∀ b ∈ wr, b ∈ S :: wr := fun b hb => List.mem_cons_of_mem _ hb
  have stay : ∀ {s s' : Shared}, Moved wr G s s' → (∀ b o, h0.get? b = some o → s.heap.get? b = some o) → ∀ b o, h0.get? b = some o → s'.heap.get? b = some o := fun hm hkp b o e =>
    hm.heap b o (fun hb => by rw [hw0 b hb] at e; cases e) (hkp b o e)
  intro k
  induction k with
  | zero =>
    intro i s hk' hi hst hkp ⟨L, es, ep, t, hS, g⟩ hR
    obtain rfl : i = n := by omega
    refine codeAny_builtin F.entry_set_update_loop ?_
    rw [Around.under_plainId F.plain_set_update_loop _]
    show wpAny _ A.in1 (pyNext (.ref I) >>= _) _ _ s
    refine wpAny_bind (W.done s _ _ hst fun s' hm => ?_)
    show wpAny _ A.in1 (ret Value.none) _ _ s'
    have hkp' := stay hm hkp
    exact wpAny_pure (hR s' L es ep t (hm.mono up) (hS.keep (fun o e => hm.heap S o hSw e) fun p hp => (hk p (List.mem_of_mem_take (g.sub p hp))).keep hkp') g hkp')
  | succ k ih =>
    intro i s hk' hi hst hkp ⟨L, es, ep, t, hS, g⟩ hR
    have hlt : i < n := by omega
    refine codeAny_builtin F.entry_set_update_loop ?_
    rw [Around.under_plainId F.plain_set_update_loop _]
    show wpAny _ A.in1 (pyNext (.ref I) >>= _) _ _ s
    refine wpAny_bind (W.item i s _ _ hlt hst fun v s' hP hst' hm => ?_)
    obtain ⟨p, hp, rfl⟩ := hval i v hP
    have hkp' := stay hm hkp
    have hS' : SetK w s'.heap S L es ep t := hS.keep (fun o e => hm.heap S o hSw e) fun q hq => (hk q (List.mem_of_mem_take (g.sub q hq))).keep hkp'
    have hx : IsN s'.heap p.2 p.1 := (hk p (List.mem_of_getElem? hp)).keep hkp'
    show wpAny _ A.in1 (holding [Value.ref p.1] (setAdd S (.ref p.1)) >>= _) _ _ s'
    refine wpAny_bind (wpAny_holding ?_)
    unfold setAdd
    refine wpAny_holding ?_
    refine wpAny_bind ((nestedKind P w).pyHash (k := p.2) hu hx ?_)
    refine add_key (s := { s' with toks := s'.toks + (nestedKind P w).draws p.2 }) hS' hx hu (by have := g.len; omega) fun b h' L' es' ep' t' hsb hS2 c1 c2 => ?_
    have hkp2 : ∀ b o, h0.get? b = some o → h'.get? b = some o := fun b o e => (hsb.2 b (fun z => by rw [z, hS0] at e; cases e)).trans (hkp' b o e)
    refine wpAny_pure ⟨plainId_quiet F.plain_set_update_loop _, ih (i + 1) _ (by omega) hlt (W.frame _ s' _ _ hst' (Nat.le_add_right _ _) fun b hb o e => ?_) hkp2 ⟨L', es', ep', t', hS2, g.step hp c1 c2⟩ fun s'' L2 es2 ep2 t2 hm'' hS'' g'' hkp'' => ?_⟩
    · rw [hsb.2 b (fun h : b = S => hSf (by rw [← h]; exact hb))]; exact e
    · refine hR s'' L2 es2 ep2 t2 (Moved.trans W.gtrans ((hm.mono up).then_heap (Nat.le_add_right _ _) fun b o hb e => ?_) hm'') hS'' g'' hkp''
      rw [hsb.2 b (fun h : b = S => hb (by rw [h]; exact List.mem_cons_self))]; exact e
end
end
end NS
/-! set(xs) of a list, of a tuple of keys (printed by mkset2.py). -/
namespace NS
open PySem PySem.Spec L2 PyProof.Rows
section
variable {P : Program} {w : World}
variable {A : Around} {E : Value → Shared → Prop} {s : Shared}
set_option maxHeartbeats 3200000 in
/-- set(xs) of a list -/
theorem call_set_list {l : Addr} {items : Array Value} (ks : KL) {Q : Value → Shared → Prop} (hh : A.handled = none) (hl : s.heap.IsList l items) (hit : items.toList = ks.map fun p => Value.ref p.1) (hk : ∀ p ∈ ks, IsN s.heap p.2 p.1) (hfew : ks.length < 64) (hu : A.units + 11 < cLine)
    (h : ∀ (h' : Heap) (tk : Nat) L es ep t, SetK w h' s.heap.objs.size L es ep t → Had ks ks.length L → (∀ b o, s.heap.get? b = some o → h'.get? b = some o) → Q (.ref s.heap.objs.size) { s with heap := h', toks := tk }) :
    wpAny (model P w) A (call (.type "set") [.ref l]) Q E s := by
  have hisz : items.size = ks.length := by
    rw [← Array.length_toList, hit, List.length_map]
  have hval : ∀ (i : Nat) (v : Value), items[i]? = some v → ∃ p, ks[i]? = some p ∧ v = .ref p.1 := fun i v hv => by
    rw [← Array.getElem?_toList, hit, List.getElem?_map] at hv
    cases hq : ks[i]? with
    | none => rw [hq] at hv; cases hv
    | some p => rw [hq] at hv; exact ⟨p, rfl, (Option.some.inj hv).symm⟩
  have none_of : ∀ b, s.heap.objs.size ≤ b → s.heap.get? b = none := fun b hb => by
    cases q : s.heap.get? b with
    | none => rfl
    | some o => exact absurd (Nat.lt_of_lt_of_le (Heap.lt_size q) hb) (Nat.lt_irrefl _)
  obtain ⟨c, tl, hmro⟩ := F.called_set.mro
  have hmade := F.called_set.made
  have hsub := F.called_set.sub
  refine wpAny_call (codeAny_of_tree ?_)
  show wpAny _ _ (callAny (.type "set") _) _ _ _
  refine wpAny_pure ⟨Code.quiet_builtin _ (by decide +kernel), codeAny_builtin F.entry_type_call ?_⟩
  rw [Around.under_plain (weight_type_call_type "set" [.ref l] []) rfl]
  have h1 := F.called_set.notType
  have h2 := F.called_set.canCreate
  have hct := F.typeCall_set_1 (.ref l)
  repeat (any_goals (first | assumption | wp_step))

  refine codeAny_mono (code_set_led1 (.ref l) (E := E) (Q₁ := fun obj s₁ => obj = .ref s.heap.objs.size ∧ s₁ = { s with heap := s.heap.push (newSet w) }) ⟨rfl, rfl⟩) fun r s₁ hr => ?_
  rcases r with e | fl
  · exact hr
  cases fl <;> first | exact hr.elim | skip
  rename_i obj
  obtain ⟨rfl, rfl⟩ := hr
  have hS : (s.heap.push (newSet w)).get? s.heap.objs.size = some (newSet w) := Heap.get?_push_size _ rfl
  have hT : Shared.TypeIs { s with heap := s.heap.push (newSet w) } (.ref s.heap.objs.size) "set" := ⟨_, hS, rfl⟩
  have hli := F.called_set.init.lookup
  have hbi := F.called_set.init.bind (.ref s.heap.objs.size)
  repeat (any_goals (first | assumption | wp_step))

  refine codeAny_mono (codeAny_call_builtin (R := wants (fun r s₂ => r = .none ∧ ∃ h' tk L es ep t, s₂ = { s with heap := h', toks := tk } ∧ SetK w h' s.heap.objs.size L es ep t ∧ Had ks ks.length L ∧ (∀ b o, s.heap.get? b = some o → h'.get? b = some o)) E) F.called_set.init.plain F.entry_set_init (check_set_init_1 hT ?_)) fun r₂ s₂ hr₂ => ?_
  · obtain ⟨ol, hol, hcl, nl, hdl⟩ := hl
    obtain ⟨ocls, odict, odata, oslots⟩ := ol
    simp only at hcl hdl
    subst hcl; subst hdl
    have hol' : (s.heap.push (newSet w)).get? l = some { cls := .type "list", dict := odict, data := .seq items nl, slots := oslots } := Heap.get?_push_of_some _ hol
    have hsls := F.sub_list_set
    have hslf := F.sub_list_frozenset
    have hne : (Value.type "list" == Value.type "dict") = false := by decide
    have hl1 : (s.heap.push (newSet w)).IsList l items := ⟨_, hol', rfl, nl, rfl⟩
    unfold Builtin.«set.__init__» noKeywords Builtin.Frozenset.updateFrom
    generalize hPI : pyIter = PI
    wp_walk
    subst hPI

    refine wpAny_pyIter_list hl1 ?_
    refine wpAny_bind (wpAny_runValue ?_)
    have hlS : l < s.heap.objs.size := Heap.lt_size hol
    have hh3 : A.in1.in1.in1.handled = none := by simp [hh]
    have hz1 : (s.heap.push (newSet w)).objs.size = s.heap.objs.size + 1 := Heap.size_push ..
    have hneI : l ≠ (s.heap.push (newSet w)).objs.size := by rw [hz1]; exact Nat.ne_of_lt (Nat.lt_succ_of_lt hlS)
    have hSf : s.heap.objs.size ∉ [(s.heap.push (newSet w)).objs.size, l] := by
      rw [hz1]
      simp only [List.mem_cons, List.not_mem_nil, or_false, not_or]
      exact ⟨Nat.ne_of_lt (Nat.lt_succ_self _), Nat.ne_of_gt hlS⟩
    refine fill_set ((Walks.list hh3 _ l hneI items).toS) s.heap.objs.size hSf ks hisz hfew hval s.heap hk (none_of _ (Nat.le_refl _)) (fun b hb => none_of b (by rw [List.mem_singleton.mp hb, hz1]; exact Nat.le_succ _)) (by show A.units + 3 + 8 < cLine; omega) (items.size - 0) 0 _ (by omega) (Nat.zero_le _)
      ⟨⟨_, Heap.get?_push_size _ rfl, rfl, rfl⟩, (hl1.push _)⟩ (fun b o e => Heap.get?_push_of_some _ (Heap.get?_push_of_some _ e)) ?hS0 ?hR
    case hS0 =>
      exact ⟨[], #[], 0, _, fresh_key (Heap.get?_push_of_some _ hS), ⟨fun p h => (by cases h), fun p h => (by simp at h), Nat.le_refl _⟩⟩
    case hR =>
      intro s' L es ep t hm hS' g' hkp
      obtain ⟨h', g2, d', tk', os'⟩ := s'
      have eg : g2 = s.gens := hm.gens
      have ed : d' = s.drawn := hm.drawn
      have eo : os' = s.os := hm.os
      subst eg; subst ed; subst eo
      show wpAny _ _ _ _ _ _
      refine wpAny_pure ?_
      show wpAny _ _ (ret Value.none) _ _ _
      rw [hisz] at g'
      exact wpAny_pure ⟨rfl, h', tk', L, es, ep, t, rfl, hS', g', hkp⟩
  · rcases r₂ with e₂ | fl₂
    · exact hr₂
    cases fl₂ <;> first | exact hr₂.elim | skip
    obtain ⟨rfl, h', tk, L, es, ep, t, rfl, hS', g', hk'⟩ := hr₂
    repeat (any_goals (first | assumption | wp_step))
    exact h _ _ _ _ _ _ hS' g' hk'
set_option maxHeartbeats 3200000 in
/-- set(xs) of a tuple -/
theorem call_set_tuple {l : Addr} {items : Array Value} (ks : KL) {Q : Value → Shared → Prop} (hh : A.handled = none) (hl : s.heap.IsTuple l items) (hit : items.toList = ks.map fun p => Value.ref p.1) (hk : ∀ p ∈ ks, IsN s.heap p.2 p.1) (hfew : ks.length < 64) (hu : A.units + 11 < cLine)
    (h : ∀ (h' : Heap) (tk : Nat) L es ep t, SetK w h' s.heap.objs.size L es ep t → Had ks ks.length L → (∀ b o, s.heap.get? b = some o → h'.get? b = some o) → Q (.ref s.heap.objs.size) { s with heap := h', toks := tk }) :
    wpAny (model P w) A (call (.type "set") [.ref l]) Q E s := by
  have hisz : items.size = ks.length := by
    rw [← Array.length_toList, hit, List.length_map]
  have hval : ∀ (i : Nat) (v : Value), items[i]? = some v → ∃ p, ks[i]? = some p ∧ v = .ref p.1 := fun i v hv => by
    rw [← Array.getElem?_toList, hit, List.getElem?_map] at hv
    cases hq : ks[i]? with
    | none => rw [hq] at hv; cases hv
    | some p => rw [hq] at hv; exact ⟨p, rfl, (Option.some.inj hv).symm⟩
  have none_of : ∀ b, s.heap.objs.size ≤ b → s.heap.get? b = none := fun b hb => by
    cases q : s.heap.get? b with
    | none => rfl
    | some o => exact absurd (Nat.lt_of_lt_of_le (Heap.lt_size q) hb) (Nat.lt_irrefl _)
  obtain ⟨c, tl, hmro⟩ := F.called_set.mro
  have hmade := F.called_set.made
  have hsub := F.called_set.sub
  refine wpAny_call (codeAny_of_tree ?_)
  show wpAny _ _ (callAny (.type "set") _) _ _ _
  refine wpAny_pure ⟨Code.quiet_builtin _ (by decide +kernel), codeAny_builtin F.entry_type_call ?_⟩
  rw [Around.under_plain (weight_type_call_type "set" [.ref l] []) rfl]
  have h1 := F.called_set.notType
  have h2 := F.called_set.canCreate
  have hct := F.typeCall_set_1 (.ref l)
  repeat (any_goals (first | assumption | wp_step))

  refine codeAny_mono (code_set_led1 (.ref l) (E := E) (Q₁ := fun obj s₁ => obj = .ref s.heap.objs.size ∧ s₁ = { s with heap := s.heap.push (newSet w) }) ⟨rfl, rfl⟩) fun r s₁ hr => ?_
  rcases r with e | fl
  · exact hr
  cases fl <;> first | exact hr.elim | skip
  rename_i obj
  obtain ⟨rfl, rfl⟩ := hr
  have hS : (s.heap.push (newSet w)).get? s.heap.objs.size = some (newSet w) := Heap.get?_push_size _ rfl
  have hT : Shared.TypeIs { s with heap := s.heap.push (newSet w) } (.ref s.heap.objs.size) "set" := ⟨_, hS, rfl⟩
  have hli := F.called_set.init.lookup
  have hbi := F.called_set.init.bind (.ref s.heap.objs.size)
  repeat (any_goals (first | assumption | wp_step))

  refine codeAny_mono (codeAny_call_builtin (R := wants (fun r s₂ => r = .none ∧ ∃ h' tk L es ep t, s₂ = { s with heap := h', toks := tk } ∧ SetK w h' s.heap.objs.size L es ep t ∧ Had ks ks.length L ∧ (∀ b o, s.heap.get? b = some o → h'.get? b = some o)) E) F.called_set.init.plain F.entry_set_init (check_set_init_1 hT ?_)) fun r₂ s₂ hr₂ => ?_
  · obtain ⟨ol, hol, hcl, nl, hdl⟩ := hl
    obtain ⟨ocls, odict, odata, oslots⟩ := ol
    simp only at hcl hdl
    subst hcl; subst hdl
    have hol' : (s.heap.push (newSet w)).get? l = some { cls := .type "tuple", dict := odict, data := .seq items nl, slots := oslots } := Heap.get?_push_of_some _ hol
    have hsls := F.sub_tuple_set
    have hslf := F.sub_tuple_frozenset
    have hne : (Value.type "tuple" == Value.type "dict") = false := by decide
    have hl1 : (s.heap.push (newSet w)).IsTuple l items := ⟨_, hol', rfl, nl, rfl⟩
    unfold Builtin.«set.__init__» noKeywords Builtin.Frozenset.updateFrom
    generalize hPI : pyIter = PI
    wp_walk
    subst hPI

    refine wpAny_pyIter_tuple hl1 ?_
    refine wpAny_bind (wpAny_runValue ?_)
    have hlS : l < s.heap.objs.size := Heap.lt_size hol
    have hh3 : A.in1.in1.in1.handled = none := by simp [hh]
    have hz1 : (s.heap.push (newSet w)).objs.size = s.heap.objs.size + 1 := Heap.size_push ..
    have hneI : l ≠ (s.heap.push (newSet w)).objs.size := by rw [hz1]; exact Nat.ne_of_lt (Nat.lt_succ_of_lt hlS)
    have hSf : s.heap.objs.size ∉ [(s.heap.push (newSet w)).objs.size, l] := by
      rw [hz1]
      simp only [List.mem_cons, List.not_mem_nil, or_false, not_or]
      exact ⟨Nat.ne_of_lt (Nat.lt_succ_self _), Nat.ne_of_gt hlS⟩
    refine fill_set ((Walks.tuple hh3 _ l hneI items).toS) s.heap.objs.size hSf ks hisz hfew hval s.heap hk (none_of _ (Nat.le_refl _)) (fun b hb => none_of b (by rw [List.mem_singleton.mp hb, hz1]; exact Nat.le_succ _)) (by show A.units + 3 + 8 < cLine; omega) (items.size - 0) 0 _ (by omega) (Nat.zero_le _)
      ⟨⟨_, Heap.get?_push_size _ rfl, rfl, rfl⟩, (hl1.push _)⟩ (fun b o e => Heap.get?_push_of_some _ (Heap.get?_push_of_some _ e)) ?hS0 ?hR
    case hS0 =>
      exact ⟨[], #[], 0, _, fresh_key (Heap.get?_push_of_some _ hS), ⟨fun p h => (by cases h), fun p h => (by simp at h), Nat.le_refl _⟩⟩
    case hR =>
      intro s' L es ep t hm hS' g' hkp
      obtain ⟨h', g2, d', tk', os'⟩ := s'
      have eg : g2 = s.gens := hm.gens
      have ed : d' = s.drawn := hm.drawn
      have eo : os' = s.os := hm.os
      subst eg; subst ed; subst eo
      show wpAny _ _ _ _ _ _
      refine wpAny_pure ?_
      show wpAny _ _ (ret Value.none) _ _ _
      rw [hisz] at g'
      exact wpAny_pure ⟨rfl, h', tk', L, es, ep, t, rfl, hS', g', hkp⟩
  · rcases r₂ with e₂ | fl₂
    · exact hr₂
    cases fl₂ <;> first | exact hr₂.elim | skip
    obtain ⟨rfl, h', tk, L, es, ep, t, rfl, hS', g', hk'⟩ := hr₂
    repeat (any_goals (first | assumption | wp_step))
    exact h _ _ _ _ _ _ hS' g' hk'
end
end NS
/-! sorted(set(xs)), xs a list or a tuple of nested tuples. -/
namespace Fx
open PySem PySem.Spec L2 PyProof.Rows PySem.W NS
/-- the set at a, without its keys -/
structure SetK0 (w : World) (h : Heap) (a : Addr) (L : NS.KL) : Prop where
  ex : ∃ (es : Array (Int × Value)) (ep : Nat) (t : SetTable), (∃ o, h.get? a = some o ∧ o.ExactSet ∧ o.data = .set es ep t) ∧ es.toList = rws w L ∧ L2.TabOk t (hsh w L) ∧ (L.map (·.2)).Nodup ∧ (w.params.followText "set-order" = true ∨ t.led = true) ∧ L.length * 5 < t.mask * 3 ∧ L.length < 64
def SetKO (w : World) (a : Addr) (L : NS.KL) : HO := .ext fun h => SetK0 w h a L
theorem SetK0.full {w : World} {h : Heap} {a : Addr} {L : NS.KL} (R : SetK0 w h a L) (hk : ∀ p ∈ L, NS.IsN h p.2 p.1) : ∃ es ep t, NS.SetK w h a L es ep t := by
  obtain ⟨es, ep, t, h1, h2, h3, h4, h5, h6, h7⟩ := R.ex
  exact ⟨es, ep, t, h1, h2, h3, h4, hk, h5, h6, h7⟩
theorem setKO_new {P : Program} {w : World} {H : Hp} {h : Heap} {a : Addr} {L : NS.KL} {es : Array (Int × Value)} {ep : Nat} {t : SetTable} (R : NS.SetK w h a L es ep t) : ObjOk P w H h a (SetKO w a L) := by
  have R0 : SetK0 w h a L := ⟨es, ep, t, R.ob, R.rows, R.tab, R.nd, R.led, R.room, R.few⟩
  obtain ⟨o, ho, _⟩ := R.ob
  refine ⟨R0, ⟨o, ho⟩, fun h1 h2 p k => ?_⟩
  obtain ⟨es', ep', t', ⟨o', ho', r'⟩, q'⟩ := SetK0.ex p
  exact ⟨es', ep', t', ⟨o', k o' ho', r'⟩, q'⟩
/-- the key at an address -/
def Kp (X : Cx) (H : Hp) (p : Addr × NestedKey) : Prop := p.2.depth ≤ 8 ∧ ∃ ρ, toKey (ofKey p.2) = some p.2 ∧ Rep (cfg X) ρ H (ofKey p.2) (.ref p.1)
abbrev kpy (p : Addr × NestedKey) : PyData := (ofKey p.2).py
theorem refs_val : ∀ {ks : NS.KL} {us : List Value}, Vals (ks.map fun p => V.ref p.1) us → us = ks.map fun p => Value.ref p.1
  | [], _, h => by cases h; rfl
  | p :: ks, _, h => by
    cases h with
    | cons r t =>
      cases r
      rw [refs_val t]
      rfl
theorem val_refs : ∀ (ks : NS.KL), EachIs (fun u (z : V × PyData) => RelV z.1 u) (ks.map fun p => Value.ref p.1) (ks.map fun p => (V.ref p.1, kpy p))
  | [] => .nil
  | p :: ks => .cons rfl (val_refs ks)
/-- a permutation of images is the image of a permutation -/
theorem perm_lift {α β : Type} {f : α → β} {l k : List β} (h : l.Perm k) : ∀ m : List α, k = m.map f → ∃ m' : List α, m'.Perm m ∧ l = m'.map f := by
  induction h with
  | nil =>
    intro m e
    cases m with
    | nil => exact ⟨[], .refl _, rfl⟩
    | cons _ _ => cases e
  | @cons x l k _ ih =>
    intro m e
    cases m with
    | nil => cases e
    | cons y m =>
      rw [List.map_cons, List.cons.injEq] at e
      obtain ⟨m', p, q⟩ := ih m e.2
      exact ⟨y :: m', p.cons y, by rw [List.map_cons, q, e.1]⟩
  | swap x y l =>
    intro m e
    match m, e with
    | [], e => cases e
    | [_], e => cases e
    | u :: v :: m, e =>
      rw [List.map_cons, List.map_cons, List.cons.injEq, List.cons.injEq] at e
      exact ⟨v :: u :: m, .swap u v m, by rw [List.map_cons, List.map_cons, e.1, e.2.1, e.2.2]⟩
  | trans _ _ ih1 ih2 =>
    intro m e
    obtain ⟨m2, p2, q2⟩ := ih2 m e
    obtain ⟨m1, p1, q1⟩ := ih1 m2 q2
    exact ⟨m1, p1.trans p2, q1⟩
theorem canSort_perm {ps qs : List PyData} (h : canSort ps = true) (sub : ∀ q ∈ qs, q ∈ ps) : canSort qs = true := by
  unfold canSort at h ⊢
  simp only [Bool.and_eq_true, List.all_eq_true, decide_eq_true_eq] at h ⊢
  obtain ⟨⟨⟨h1, h2⟩, h3⟩, h4⟩ := h
  refine ⟨⟨⟨fun d hd => h1 d (sub d hd), fun d hd e he => h2 d (sub d hd) e (sub e he)⟩, fun d hd => h3 d (sub d hd)⟩, ?_⟩
  cases qs with
  | nil => rfl
  | cons q qs =>
    cases ps with
    | nil => have := sub q (by simp); cases this
    | cons p ps =>
      simp only [Bool.and_eq_true, decide_eq_true_eq, List.all_eq_true] at h4 ⊢
      have key : ∀ d ∈ p :: ps, So.firstT d = So.firstT p := fun d hd => h4.2 d hd
      rw [key q (sub q (by simp))]
      exact ⟨h4.1, fun d hd => key d (sub d hd)⟩
section
variable {X : Cx}
theorem Kp.is {pins : List (Addr × Obj)} {σ : L2.St} {H : Hp} {s : Shared} (I : Inv X pins σ H s) {p : Addr × NestedKey} (h : Kp X H p) : NS.IsN s.heap p.2 p.1 := by
  obtain ⟨h1, ρ, h2, h3⟩ := h
  exact ⟨Rep.nest I _ h2 h3 (show RelV (.ref p.1) (Value.ref p.1) from rfl), h1⟩
def rSetK (X : Cx) : List V → Hp → VK → Prop := fun xs H Q => ∃ (l : Addr) (ks : NS.KL), xs = [V.ref l] ∧ (SqL X.K H l (ks.map fun p => V.ref p.1) ∨ SqT X.K H l (ks.map fun p => V.ref p.1)) ∧ (∀ p ∈ ks, Kp X H p) ∧ ks.length < 64 ∧
  ∀ a L, H a = none → (∀ p ∈ L, p ∈ ks) → (∀ p ∈ ks, p.2 ∈ L.map (·.2)) → (L.map (·.2)).Nodup → Q (.ref a) (upd H a (SetKO X.w a L))
theorem cr_setK (hc : X.calm = true) (hu : X.A.units + 64 < cLine) : CallR X (.type "set") (rSetK X) := by
  intro pins s σ H xs us Q I r h
  obtain ⟨l, ks, rfl, hs, hk, hf, q⟩ := h
  rw [Vals.ref1 r]
  have hn : H s.heap.objs.size = none := I.hok.fresh (Nat.le_refl _)
  have fin : ∀ (h' : Heap) (tk : Nat) L es ep t, NS.SetK X.w h' s.heap.objs.size L es ep t → Had ks ks.length L → (∀ b o, s.heap.get? b = some o → h'.get? b = some o) → ∃ x H', Inv X pins σ H' { s with heap := h', toks := tk } ∧ RelV x (.ref s.heap.objs.size) ∧ Q x H' := fun h' tk L es ep t R g k =>
    ⟨.ref s.heap.objs.size, upd H s.heap.objs.size (SetKO X.w s.heap.objs.size L), I.laid (t' := tk) k (Nat.le_refl _) (setKO_new R), rfl, q _ L hn (fun p hp => List.mem_of_mem_take (g.sub p hp)) (fun p hp => g.all p (by rw [List.take_length]; exact hp)) R.nd⟩
  rcases hs with hl | hl
  · obtain ⟨its, rv, pl, hz⟩ := I.list hl
    exact call_set_list (P := X.prog) (w := X.w) ks (I.ok.hd hc) pl.isList (by simpa using refs_val rv) (fun p hp => (hk p hp).is I) hf (by omega) fin
  · obtain ⟨its, rv, pl, hz⟩ := I.tuple hl
    exact call_set_tuple (P := X.prog) (w := X.w) ks (I.ok.hd hc) pl (by simpa using refs_val rv) (fun p hp => (hk p hp).is I) hf (by omega) fin
def rSortK (X : Cx) : List V → Hp → VK → Prop := fun vs H Q => ∃ (a : Addr) (L : NS.KL), vs = [V.ref a] ∧ H a = some (SetKO X.w a L) ∧ (∀ p ∈ L, Kp X H p) ∧ canSort (L.map kpy) = true ∧ (∀ p ∈ L, (ofKey p.2).flat = true) ∧
  ∀ (L' : NS.KL) (q : Addr), L'.Perm L → L'.Pairwise (fun p r => kle (kpy p) (kpy r) = true) → (L'.map (·.2)).Nodup → H q = none → Q (.ref q) (upd H q (.lst (L'.map fun p => V.ref p.1)))
theorem cr_sortK (hc : X.calm = true) (hu : X.A.units + 70 < cLine) : CallR X (.builtin "sorted") (rSortK X) := by
  intro pins s σ H vs us Q I r h
  obtain ⟨a, L, rfl, ha, hk, hcan, hfl, q⟩ := h
  have R0 : SetK0 X.w s.heap a L := (I.hok a _ ha).1
  obtain ⟨es, ep, t, R⟩ := R0.full fun p hp => (hk p hp).is I
  rw [Vals.ref1 r]
  obtain ⟨o, ho, hex, hd⟩ := R.ob
  have hsz := rws_len L R.rows
  have hfew := R.few
  refine Calls.call_function_entry kind_sorted plain_sorted entry_sorted (args_sorted1 _) ?_
  unfold Builtin.«sorted»
  refine wpAny_bind (m := checkCount "sorted" 1 1 _) (wpAny_pure ?_)
  refine wpAny_bind (collect_set (A := X.A.in1) (I.ok.hd hc) ⟨o, ho, hex.1, hd⟩ R.fits (by unfold scanBound; omega) R.tab.ris R.led fun s1 vs k1 hz g1 o1 pm => ?_)
  have hes : es.toList.map (·.2) = L.map fun q => Value.ref q.1 := by
    rw [R.rows]
    unfold rws
    rw [List.map_map]
    rfl
  rw [hes] at pm
  obtain ⟨L1, p1, e1⟩ := perm_lift pm L rfl
  subst e1
  have l1 := p1.length_eq
  have hL : (L1.map fun q => Value.ref q.1).length ≤ sizeLine := by rw [List.length_map, sizeLine_eq]; omega
  have Z : SortZ X.K H (L1.map fun p => (V.ref p.1, kpy p)) := by
    refine ⟨fun z hz => ?_, ?_, by rw [List.length_map, sizeLine_eq]; omega⟩
    · obtain ⟨p, hp, rfl⟩ := List.mem_map.mp hz
      have hp := p1.mem_iff.mp hp
      obtain ⟨_, ρ, _, rp⟩ := hk p hp
      exact Rep.dp _ (hfl p hp) rp
    · rw [List.map_map]
      refine canSort_perm hcan fun q hq => ?_
      obtain ⟨p, hp, rfl⟩ := List.mem_map.mp hq
      exact List.mem_map.mpr ⟨p, p1.mem_iff.mp hp, rfl⟩
  refine wpAny_bind (wpAny_newList ?_ hL)
  have hoL : (s1.heap.push (seqObj "list" (L1.map fun q => Value.ref q.1).toArray 0)).get? s1.heap.objs.size = some (seqObj "list" (L1.map fun q => Value.ref q.1).toArray 0) := Heap.get?_push_size _ rfl
  obtain ⟨S, srt⟩ := sort_core I hu Z (val_refs L1) (h := sortingHeap (s1.heap.push (seqObj "list" (L1.map fun q => Value.ref q.1).toArray 0)) s1.heap.objs.size (L1.map fun q => Value.ref q.1)) (fun b o e => sortingHeap_old (Nat.ne_of_lt (Heap.lt_size (k1 b o e))) (Heap.get?_push_of_some _ (k1 b o e))) (A := X.A.in1.in1) (by show X.A.units + 1 + 1 ≤ _; omega) (g := s1.gens) (d := s1.drawn) (tk := s1.toks) (os := s1.os)
  refine wpAny_bind (wpAny_holding (wpAny_call_entry slot_list_sort ⟨_, hoL, rfl⟩ entry_list_sort
    (list_sort_vals (s := { s1 with heap := s1.heap.push (seqObj "list" (L1.map fun q => Value.ref q.1).toArray 0) }) hoL S hL ⟨_, rfl, ?_⟩) (args_list_sort _)))
  obtain ⟨e', he'⟩ := sortedHeap_at (vs := L1.map fun q => Value.ref q.1) (out := (sortVals (dataKind (sortingHeap (s1.heap.push (seqObj "list" (L1.map fun q => Value.ref q.1).toArray 0)) s1.heap.objs.size (L1.map fun q => Value.ref q.1)) ((L1.map fun p => (V.ref p.1, kpy p)).map (·.2))) false (L1.map fun q => Value.ref q.1) (L1.map fun q => Value.ref q.1)).toArray) hoL
  -- the order that comes out
  have es2 : sortZ (L1.map fun p => (V.ref p.1, kpy p)) = (L1.mergeSort fun p r => kle (kpy p) (kpy r)).map fun p => (V.ref p.1, kpy p) := (sort_maps (s := fun a b : V × PyData => kle a.2 b.2) (fun p : Addr × NestedKey => (V.ref p.1, kpy p)) fun a _ b _ => rfl).symm
  have tl : TotalLe fun p r : Addr × NestedKey => kle (kpy p) (kpy r) := ⟨fun a b c x y => kTot.trans _ _ _ x y, fun a b => kTot.total _ _⟩
  have pm2 : (L1.mergeSort fun p r => kle (kpy p) (kpy r)).Perm L := (List.mergeSort_perm _ _).trans p1
  have pw2 := sort_pairwise tl L1
  rw [es2] at srt
  have sv := each_vals srt
  rw [List.map_map] at sv
  generalize L1.mergeSort (fun p r => kle (kpy p) (kpy r)) = L2 at pm2 pw2 sv
  have sv : Vals (L2.map fun p => V.ref p.1) _ := sv
  have hn : H s1.heap.objs.size = none := I.hok.fresh hz
  have hlen : (L2.map fun p => V.ref p.1).length ≤ sizeLine := by rw [List.length_map, pm2.length_eq, sizeLine_eq]; omega
  have kp : ∀ b u, s.heap.get? b = some u → (sortedHeap (s1.heap.push (seqObj "list" (L1.map fun q => Value.ref q.1).toArray 0)) s1.heap.objs.size (L1.map fun q => Value.ref q.1) (sortVals (dataKind (sortingHeap (s1.heap.push (seqObj "list" (L1.map fun q => Value.ref q.1).toArray 0)) s1.heap.objs.size (L1.map fun q => Value.ref q.1)) ((L1.map fun p => (V.ref p.1, kpy p)).map (·.2))) false (L1.map fun q => Value.ref q.1) (L1.map fun q => Value.ref q.1)).toArray).get? b = some u := fun b u e => by
    have z := k1 b u e
    have hlt := Heap.lt_size z
    rw [sortedHeap_old (Nat.ne_of_lt hlt) (by rw [size_push']; exact Nat.lt_succ_of_lt hlt)]
    exact Heap.get?_push_of_some _ z
  have nd2 : (L2.map (·.2)).Nodup := (pm2.map (·.2)).nodup_iff.mpr R.nd
  exact wpAny_pure ⟨_, rfl, .ref s1.heap.objs.size, upd H s1.heap.objs.size (.lst (L2.map fun p => V.ref p.1)), I.call' (ch := []) o1 (Un.laid kp hz hn) (I.hok.laid (o := .lst (L2.map fun p => V.ref p.1)) kp hz ⟨hlen, _, e', sv, he'⟩) (by show AllBare s1.gens; rw [g1]; exact I.bare) (fun _ z => nomatch z), rfl, q L2 _ pm2 pw2 nd2 hn⟩
end
end Fx
/-! sorted(set(xs)) of nested tuples: what it does to trees. -/
namespace Fx
open PySem PySem.Spec L2 PyProof.Rows PySem.W NS
/-- each once -/
def uniq : List D → List D
  | [] => []
  | d :: ds => if dhasN (uniq ds) d = true then uniq ds else d :: uniq ds
theorem uniq_sub {x : D} : ∀ {ds : List D}, x ∈ uniq ds → x ∈ ds
  | d :: ds, h => by
    unfold uniq at h
    split at h
    · exact List.mem_cons_of_mem _ (uniq_sub h)
    · rcases List.mem_cons.mp h with e | h
      · rw [e]; exact List.mem_cons_self
      · exact List.mem_cons_of_mem _ (uniq_sub h)
theorem dhas_iff {d : D} {ds : List D} (hd : isKey d = true) : dhasN ds d = true ↔ d ∈ ds := by
  obtain ⟨κ, h, _⟩ := isKey_some hd
  unfold dhasN
  rw [List.any_eq_true]
  constructor
  · rintro ⟨e, he, z⟩
    have z := of_decide_eq_true z
    rw [h] at z
    rw [← toKey_inj z h]
    exact he
  · exact fun hm => ⟨d, hm, decide_eq_true rfl⟩
theorem mem_uniq {x : D} : ∀ {ds : List D}, (∀ d ∈ ds, isKey d = true) → (x ∈ uniq ds ↔ x ∈ ds)
  | [], _ => Iff.rfl
  | d :: ds, hk => by
    have ih := mem_uniq (x := x) (ds := ds) fun e he => hk e (List.mem_cons_of_mem _ he)
    unfold uniq
    split
    · rename_i h
      rw [dhas_iff (hk d List.mem_cons_self)] at h
      rw [ih, List.mem_cons]
      constructor
      · exact .inr
      · rintro (e | e)
        · rw [e]; exact uniq_sub h
        · exact e
    · rw [List.mem_cons, List.mem_cons, ih]
theorem uniq_nd : ∀ {ds : List D}, (∀ d ∈ ds, isKey d = true) → (uniq ds).Nodup
  | [], _ => List.nodup_nil
  | d :: ds, hk => by
    have ih := uniq_nd (ds := ds) fun e he => hk e (List.mem_cons_of_mem _ he)
    unfold uniq
    split
    · exact ih
    · rename_i h
      rw [dhas_iff (hk d List.mem_cons_self)] at h
      exact List.nodup_cons.mpr ⟨h, ih⟩
def sskL (ds : List D) : Option (List D) := if (ds.all isKey && D.flats ds && canSort (D.pys ds) && decide (ds.length < 64)) = true then some (sortD (uniq ds)) else none
def sskI : D → Option (List D)
  | .lst ds => sskL ds
  | .tup ds => sskL ds
  | _ => none
def gSSK (d : D) : M D := fun _ w => match sskI d with
  | some ds => .ok (.lst ds) w
  | none => .no
/-- what is sorted, each once, is one list -/
theorem one_sort {l m : List D} (hl : l.Pairwise fun a b => kle a.py b.py = true) (hm : m.Pairwise fun a b => kle a.py b.py = true) (nl : l.Nodup) (nm : m.Nodup) (h : ∀ a, a ∈ l ↔ a ∈ m) (nb : ∀ a ∈ l, a.nb = true) (ak : ∀ a ∈ l, ∀ b ∈ l, So.akin a.py b.py = true) : l = m :=
  List.Perm.eq_of_pairwise (le := fun a b : D => kle a.py b.py = true) (fun a b ha hb h1 h2 => by
    have hb' := (h b).mpr hb
    exact (eqv_nb _ _ (nb a ha) (nb b hb')).mp (kle_anti (ak a ha b hb') h1 h2)) hl hm ((List.perm_ext_iff_of_nodup nl nm).mpr h)
mutual
theorem key_nb : ∀ (d : D) {κ : NestedKey}, toKey d = some κ → d.nb = true
  | .int i, _, _ => rfl
  | .str i, _, _ => rfl
  | .tup ds, κ, h => by
    unfold toKey at h
    cases q : toKeys ds with
    | none => rw [q] at h; cases h
    | some ks =>
      unfold D.nb
      exact keys_nb ds q
  | .non, _, h => by cases h
  | .bl _, _, h => by cases h
  | .fn _, _, h => by cases h
  | .rng _, _, h => by cases h
  | .ref _, _, h => by cases h
  | .lst _, _, h => by cases h
  | .dic _ _, _, h => by cases h
  | .dct _ _, _, h => by cases h
  | .ins _ _ _, _, h => by cases h
theorem keys_nb : ∀ (ds : List D) {ks : List NestedKey}, toKeys ds = some ks → D.nbs ds = true
  | [], _, _ => rfl
  | d :: ds, ks, h => by
    unfold toKeys at h
    cases q1 : toKey d with
    | none => simp only [q1] at h; cases h
    | some k1 =>
      cases q2 : toKeys ds with
      | none => simp only [q1, q2] at h; cases h
      | some k2 =>
        unfold D.nbs
        rw [key_nb d q1, keys_nb ds q2]
        rfl
end
/-- the keys at the addresses of a list -/
theorem keys_reps {C : Cfg} {ρ : Zn} {H : Hp} : ∀ {ds : List D} {vs : List V}, Reps C ρ H ds vs → (∀ d ∈ ds, isKey d = true) → ∃ ks : NS.KL, vs = ks.map (fun p => V.ref p.1) ∧ ks.map (fun p => ofKey p.2) = ds ∧ ∀ p ∈ ks, p.2.depth ≤ 8 ∧ toKey (ofKey p.2) = some p.2 ∧ Rep C ρ H (ofKey p.2) (.ref p.1)
  | [], vs, h, _ => ⟨[], h, rfl, fun p hp => by cases hp⟩
  | d :: ds, _, ⟨v, r, e, h1, h2⟩, hk => by
    subst e
    obtain ⟨ks, rfl, e2, h3⟩ := keys_reps h2 fun d hd => hk d (List.mem_cons_of_mem _ hd)
    obtain ⟨κ, q1, q2⟩ := isKey_some (hk d (by simp))
    obtain ⟨b, rfl⟩ := key_ref h1 q1
    have e1 := of_toKey d q1
    refine ⟨(b, .tup κ) :: ks, rfl, by rw [List.map_cons, e2]; simp only [e1], fun p hp => ?_⟩
    rcases List.mem_cons.mp hp with rfl | hp
    · exact ⟨q2, by simp only [e1]; exact q1, by simp only [e1]; exact h1⟩
    · exact h3 p hp
section
variable {X : Cx} {W : WX}
def rSSK (X : Cx) : List V → Hp → VK → Prop := fun xs H Q => rSetK X xs H fun v H1 => rSortK X [v] H1 Q
theorem ok_ssk : Ok1 (cfg X) (rSSK X) gSSK := by
  intro W σ ρ H ro w d x Q hS hd q
  unfold gSSK at q
  cases e : sskI d with
  | none => simp only [e] at q; exact (show False from q).elim
  | some out =>
    simp only [e] at q
    have core : ∀ (ds : List D) (a : Addr) (vs : List V), sskL ds = some out → (SqL X.K H a vs ∨ SqT X.K H a vs) → Reps (cfg X) ρ H ds vs → rSSK X [.ref a] H Q := by
      intro ds a vs e hs r
      unfold sskL at e
      split at e
      · rename_i c
        cases e
        simp only [Bool.and_eq_true, List.all_eq_true, decide_eq_true_eq] at c
        obtain ⟨⟨⟨c1, c2⟩, c3⟩, c4⟩ := c
        obtain ⟨ks, rfl, e2, hk⟩ := keys_reps r c1
        subst e2
        rw [List.length_map] at c4
        refine ⟨a, ks, rfl, hs, fun p hp => ⟨(hk p hp).1, ρ, (hk p hp).2⟩, c4, fun b L hb hL1 hL2 nd => ⟨b, L, rfl, by rw [upd_same], fun p hp => ?_, ?_, fun p hp => ?_, fun L' p pm pw nd' hpn => ?_⟩⟩
        · obtain ⟨k1, k2, k3⟩ := hk p (hL1 p hp)
          exact ⟨k1, ρ, k2, Rep.ext (ext_new hS hb) _ k3⟩
        · refine canSort_perm c3 fun q hq => ?_
          obtain ⟨p, hp, rfl⟩ := List.mem_map.mp hq
          rw [pys_map, List.map_map]
          exact List.mem_map.mpr ⟨p, hL1 p hp, rfl⟩
        · exact flats_iff.mp c2 _ (List.mem_map.mpr ⟨p, hL1 p hp, rfl⟩)
        · have hin : ∀ q ∈ L', q ∈ ks := fun q hq => hL1 q (pm.mem_iff.mp hq)
          have inj : ∀ p ∈ L', ∀ q ∈ L', ofKey p.2 = ofKey q.2 → p.2 = q.2 := fun p hp q hq z => by
            have h1 := (hk p (hin p hp)).2.1
            have h2 := (hk q (hin q hq)).2.1
            rw [z, h2] at h1
            exact (Option.some.inj h1).symm
          have em : L'.map (fun p => ofKey p.2) = sortD (uniq (ks.map fun p => ofKey p.2)) := by
            have tl : TotalLe fun a b : D => kle a.py b.py := ⟨fun a b c x y => kTot.trans _ _ _ x y, fun a b => kTot.total _ _⟩
            obtain ⟨C, _, _⟩ := canSort_ok c3
            have mem : ∀ x, x ∈ L'.map (fun p => ofKey p.2) ↔ x ∈ ks.map fun p => ofKey p.2 := fun x => by
              constructor
              · intro hx
                obtain ⟨p, hp, rfl⟩ := List.mem_map.mp hx
                exact List.mem_map.mpr ⟨p, hin p hp, rfl⟩
              · intro hx
                obtain ⟨p, hp, rfl⟩ := List.mem_map.mp hx
                obtain ⟨q, hq, z⟩ := List.mem_map.mp (hL2 p hp)
                refine List.mem_map.mpr ⟨q, pm.mem_iff.mpr hq, ?_⟩
                simp only [z]
            refine one_sort (List.pairwise_map.mpr pw) (sort_pairwise tl _) ?_ ((List.mergeSort_perm _ _).nodup_iff.mpr (uniq_nd c1)) (fun x => ?_) (fun x hx => ?_) fun x hx y hy => ?_
            · refine List.pairwise_map.mpr (List.Pairwise.imp_of_mem (fun {p q} hp hq hne z => hne (inj p hp q hq z)) (List.pairwise_map.mp nd'))
            · rw [mem]
              exact ((List.mergeSort_perm _ _).mem_iff.trans (mem_uniq c1)).symm
            · obtain ⟨p, hp, rfl⟩ := List.mem_map.mp hx
              exact key_nb _ (hk p (hin p hp)).2.1
            · have h1 := (mem x).mp hx
              have h2 := (mem y).mp hy
              refine C.ak _ ?_ _ ?_
              · rw [pys_map]; exact List.mem_map.mpr ⟨x, h1, rfl⟩
              · rw [pys_map]; exact List.mem_map.mpr ⟨y, h2, rfl⟩
          rw [← em] at q
          have s1 : RepS (cfg X) ρ (upd H b (SetKO X.w b L)) (ro ++ w) := reps_new hS hb
          refine ok_lst (C := cfg X) (W := W) (σ := σ) s1 (reps_maps (f := fun q : Addr × NestedKey => ofKey q.2) (g := fun q : Addr × NestedKey => V.ref q.1) fun q hq => Rep.ext (ext_new hS hb) _ (hk q (hin q hq)).2.2) (fun u ρ' H' w' x' => ?_) p hpn
          exact q u ρ' H' ((ext_new hS hb).trans w') x'
      · cases e
    cases d with
    | lst ds =>
      obtain ⟨a, vs, rfl, hs, r⟩ := hd.lst
      exact core ds a vs e (.inl hs) r
    | tup ds =>
      obtain ⟨a, vs, rfl, hs, r⟩ := hd.tup
      exact core ds a vs e (.inr hs) r
    | _ => cases e
/-- sorted(set(e)) -/
theorem pf_ssk {e : Expr} {p1 p2 q1 q2 : Pos} {fs : Env → M (List D)} (hc : X.calm = true) (hu : X.A.units + 70 < cLine) (hg : Gl X "sorted") (hm : X.mg "sorted" = none) (hg2 : Gl X "set") (hm2 : X.mg "set" = none) (ha : PA X [e] (tA (cfg X) W fs))
    (hs1 : starEach [e] X.env = (false, eval e X.env) :: starEach [] X.env := by rfl) (hs2 : starEach [Expr.Call (.Name "set" p2) [e] [] q2] X.env = (false, eval (Expr.Call (.Name "set" p2) [e] [] q2) X.env) :: starEach [] X.env := by rfl) :
    PE X (.Call (.Name "sorted" p1) [.Call (.Name "set" p2) [e] [] q2] [] q1) (tE (cfg X) W (cCall (one gSSK) fs)) := by
  refine pe_imp (pe_callB (cr_sortK hc hu) hg hm (by decide +kernel) (pa_cons (pe_callTy (cr_setK hc (by omega)) hg2 hm2 (by decide +kernel) ha (he := hs1)) pa_nil hs2) (he := hs2)) fun σ H Q q => ?_
  exact tE_call (okL_one ok_ssk) q
end
/-! ### of things that are sorted -/
section
variable {α : Type} [DecidableEq α] (S : Sk α)
def uniqS : List α → List α
  | [] => []
  | a :: l => if a ∈ uniqS l then uniqS l else a :: uniqS l
theorem mem_uniqS {x : α} : ∀ {l : List α}, x ∈ uniqS l ↔ x ∈ l
  | [] => Iff.rfl
  | a :: l => by
    unfold uniqS
    split
    · rename_i h
      rw [mem_uniqS, List.mem_cons]
      constructor
      · exact .inr
      · rintro (e | e)
        · rw [e]; exact mem_uniqS.mp h
        · exact e
    · rw [List.mem_cons, List.mem_cons, mem_uniqS]
theorem uniqS_nd : ∀ l : List α, (uniqS l).Nodup
  | [] => List.nodup_nil
  | a :: l => by
    unfold uniqS
    split
    · exact uniqS_nd l
    · rename_i h
      exact List.nodup_cons.mpr ⟨h, uniqS_nd l⟩
theorem uniq_map : ∀ {l : List α}, (∀ a ∈ l, isKey (S.f a) = true) → uniq (l.map S.f) = (uniqS l).map S.f
  | [], _ => rfl
  | a :: l, hk => by
    have hl : ∀ b ∈ l, isKey (S.f b) = true := fun b hb => hk b (List.mem_cons_of_mem _ hb)
    have ih := uniq_map (l := l) hl
    have e : (dhasN (uniq (l.map S.f)) (S.f a) = true) ↔ a ∈ uniqS l := by
      rw [dhas_iff (hk a List.mem_cons_self), mem_uniq (fun d hd => by obtain ⟨b, hb, rfl⟩ := List.mem_map.mp hd; exact hl b hb), mem_uniqS, List.mem_map]
      constructor
      · rintro ⟨b, hb, e⟩
        rw [← S.inj _ _ e]
        exact hb
      · exact fun h => ⟨a, h, rfl⟩
    rw [List.map_cons]
    unfold uniq uniqS
    by_cases c : a ∈ uniqS l
    · rw [if_pos c, if_pos (e.mpr c), ih]
    · rw [if_neg c, if_neg (fun h => c (e.mp h)), List.map_cons, ih]
/-- ascending, each once -/
def asc (l : List α) : List α := S.sort (uniqS l)
theorem asc_mem {l : List α} {a : α} : a ∈ asc S l ↔ a ∈ l := by
  unfold asc
  rw [S.mem, mem_uniqS]
theorem asc_ndS (l : List α) : (asc S l).Nodup := (S.perm _).nodup_iff.mpr (uniqS_nd l)
theorem asc_one {l m : List α} (hl : l.Pairwise fun a b => S.le a b = true) (nl : l.Nodup) (h : ∀ a, a ∈ l ↔ a ∈ m) : asc S m = l :=
  S.one (S.sorted _) hl (asc_ndS S m) nl fun a => by rw [asc_mem, h]
theorem asc_asc (l : List α) : asc S (asc S l) = asc S l := asc_one S (S.sorted _) (asc_ndS S l) fun a => Iff.rfl
theorem asc_short (l : List α) : (asc S l).length ≤ l.length := by
  unfold asc
  rw [(S.perm _).length_eq]
  induction l with
  | nil => exact Nat.le_refl _
  | cons a l ih =>
    unfold uniqS
    split
    · exact Nat.le_succ_of_le ih
    · exact Nat.succ_le_succ ih
theorem sskL_S {l : List α} (hk : ∀ a ∈ l, isKey (S.f a) = true) (h1 : ∀ a ∈ l, (S.f a).lay = true) (h2 : ∀ a ∈ l, (S.f a).dp ≤ 64) (h3 : l.length < 64) : sskL (l.map S.f) = some ((asc S l).map S.f) := by
  unfold sskL asc
  have hk' : (l.map S.f).all isKey = true := by
    rw [List.all_map, List.all_eq_true]
    exact hk
  rw [hk', S.flats, S.can h1 h2, List.length_map, decide_eq_true h3]
  simp only [Bool.and_self, if_true]
  rw [uniq_map S hk, S.sortD]
theorem ssk_lst {l : List α} {ro w : List D} (hk : ∀ a ∈ l, isKey (S.f a) = true) (h1 : ∀ a ∈ l, (S.f a).lay = true) (h2 : ∀ a ∈ l, (S.f a).dp ≤ 64) (h3 : l.length < 64) : gSSK (.lst (l.map S.f)) ro w = .ok (.lst ((asc S l).map S.f)) w := by
  unfold gSSK
  rw [show sskI (.lst (l.map S.f)) = some ((asc S l).map S.f) from sskL_S S hk h1 h2 h3]
theorem ssk_tup {l : List α} {ro w : List D} (hk : ∀ a ∈ l, isKey (S.f a) = true) (h1 : ∀ a ∈ l, (S.f a).lay = true) (h2 : ∀ a ∈ l, (S.f a).dp ≤ 64) (h3 : l.length < 64) : gSSK (.tup (l.map S.f)) ro w = .ok (.lst ((asc S l).map S.f)) w := by
  unfold gSSK
  rw [show sskI (.tup (l.map S.f)) = some ((asc S l).map S.f) from sskL_S S hk h1 h2 h3]
end
end Fx
/-! x is True, x is not False. -/
namespace Fx
open PySem PySem.Spec L2 PyProof.Rows PySem.W
section
variable {C : Cfg}
end
end Fx
/-! A def with *args: its promise is kept from the state in which the tuple of the further arguments has been made. -/
namespace Fx
open PySem PySem.Spec L2 PyProof.Rows PySem.W
/-- a def whose last parameter takes the further arguments: run from the state s1 in which they are bound -/
structure FnOkV (P : Program) (w : World) (K : PySem.W.Frag) (mg : Str → Option Value) (base : Heap) (k : Nat) (f : Addr) (fd : FuncData) (ps : List Str) (sp : Sp) : Prop where
  len : ∀ vs H Q E, sp vs H Q E → vs.length = ps.length
  run : ∀ (A : Around) (outer : List PySem.Env) (s s1 : Shared) (H : Hp) (args : Args) (us : List Value) (vs : List V) (Q : VK) (E : XK), Room k A → K.In s.heap → Env0 P w K mg base A outer s1 H →
    (∀ (M : Model) (A : Around) (E : Value → Shared → Prop) (Q : List (Str × Value) → Shared → Prop), Q (ps.zip us) s1 → wpAny M A (bindArgs fd args) Q E s) → Vals vs us → sp vs H Q E →
    codeAny (model P w) A (.call (.ref f) args) (CR (L2.CX P w) outer P w H s1 Q E) s
/-- the further arguments in a new tuple -/
def Further (fd : FuncData) (ps : List Str) (m n : Nat) : Prop := ∀ us : List Value, us.length = n → bindArgs fd ⟨us, []⟩ = (newTuple (us.drop m) >>= fun t => pure (ps.zip (us.take m ++ [t])))
section
variable {P : Program} {w : World} {K : PySem.W.Frag} {mg : Str → Option Value} {base : Heap}
theorem okV {x qual : Str} {st : Stmt} {f : Addr} {fd : FuncData} {N ps : List Str} {k : Nat} {sp : Sp} (F : Fun K x qual st f fd) (S : FnScope N ps (defScope st)) (len : ∀ vs H Q E, sp vs H Q E → vs.length = ps.length)
    (hbody : ∀ (cdv : Value) (A : Around) (outer : List PySem.Env) (s : Shared) (H : Hp) (vs : List V) (Q : VK) (E : XK), Room k (A.deeper (PyProof.Rows.envOfC qual (defScope st) s.heap.objs.size f cdv)) → sp vs H Q E →
      ∃ t, PSs (cxOf (L2.CX P w) P w K mg base N qual (defScope st) f cdv A outer s H E) (defBody st) t ∧ t { nx := fun _ H' => Q .non H', rt := Q } (L2.start N vs) H) : FnOkV P w K mg base (k + 1) f fd ps sp := by
  obtain ⟨oc, od, kV, doc, pm, an, cdv, ct, osl, rfl, lk, hcd⟩ := F.ex
  refine ⟨len, fun A outer s s1 H args us vs Q E hr KX e0 hb r hsp => ?_⟩
  have lim : s1.heap.NoLimit := e0.mod.nolimit.keeps fun b o e => (e0.bs b o e).1
  refine codeAny_call_function hr.depth (KX _ _ lk) rfl S.co S.gen rfl (PySem.W.codeRec_of KX hcd) (hb _ _ _ _ ?_)
  refine wpAny_newFunctionEnv_cells S.kind (fun ⟨n, v⟩ hy => ?_) fun env he s2 x => ?_
  · rcases S.par n (List.of_mem_zip hy).1 with q | q
    · exact .inl q
    · exact .inr ⟨q, PySem.W.cellsFrom_some _ _ _ (.inl q)⟩
  subst he
  refine ⟨lim.keeps x.toInCall.keep, codeAny_func ?_⟩
  obtain ⟨t, ht, hq⟩ := hbody cdv A outer s1 H vs Q E (hr.deeper _) hsp
  have I := inv_start (CX := L2.CX P w) (E := E) S hr.hd e0 (len _ _ _ _ hsp) r x
  refine wpAny_mono (ht.run [] s2 (L2.start N vs) H _ I hq) (fun fl s' hs => ?_) fun e s' hs => hs
  cases fl with
  | ret u =>
    obtain ⟨v, σ', H', J, rv, q⟩ := hs
    exact ⟨v, H', J.os, J.bare, J.base, J.hok, rv, q⟩
  | next =>
    obtain ⟨σ', H', J, q⟩ := hs
    exact ⟨.non, H', J.os, J.bare, J.base, J.hok, rfl, q⟩
  | brk =>
    obtain ⟨_, _, _, q⟩ := hs
    exact False.elim q
  | cont =>
    obtain ⟨_, _, _, q⟩ := hs
    exact False.elim q
theorem def_okV {x qual : Str} {st : Stmt} {f : Addr} {fd : FuncData} {N ps : List Str} {k : Nat} {body : SF} (F : Fun K x qual st f fd) (S : FnScope N ps (defScope st))
    (h : ∀ (cdv : Value) (A : Around) (outer : List PySem.Env) (s : Shared) (H : Hp) (E : XK), Room k (A.deeper (PyProof.Rows.envOfC qual (defScope st) s.heap.objs.size f cdv)) →
      PSs (cxOf (L2.CX P w) P w K mg base N qual (defScope st) f cdv A outer s H E) (defBody st) (tS ⟨K, mg, w⟩ (fun c d _ H => E c d H) body)) :
    FnOkV P w K mg base (k + 1) f fd ps (spF ⟨K, mg, w⟩ (runDef ps.length N.length body) ps.length) := by
  refine okV F S (fun vs H Q E h => ?_) fun cdv A outer s H vs Q E hr hsp => ?_
  · obtain ⟨ρ, ds, ro, w, hl, _⟩ := h
    exact hl
  · refine ⟨_, h cdv A outer s H E hr, ?_⟩
    obtain ⟨ρ, ds, ro, wl, hl, hS, hR, q⟩ := hsp
    have hdl : ds.length = ps.length := by rw [hR.len]; exact hl
    refine ⟨ρ, ds.map some ++ List.replicate (N.length - ds.length) none, ro, wl, hS, reps_start hR, ?_⟩
    unfold runDef at q
    rw [if_pos hdl, ← hdl] at q
    cases e : body (ds.map some ++ List.replicate (N.length - ds.length) none) ro wl with
    | no =>
      rw [e] at q
      exact q
    | exn c ns xs env w' =>
      rw [e] at q
      exact fun cls dx σ' ρ' H' x s e2 rx => q cls dx ρ' H' x s rx
    | go fl env w' =>
      rw [e] at q
      cases fl with
      | nx => exact fun σ' ρ' H' x s e2 => q .non ρ' H' x s rfl
      | rt d => exact fun v ρ' H' x s r => q v ρ' H' x s r
      | bk => exact (show False from q).elim
      | ct => exact (show False from q).elim
theorem no_okV {f : Addr} {fd : FuncData} {ps : List Str} {k : Nat} : FnOkV P w K mg base k f fd ps (spF ⟨K, mg, w⟩ (fun _ => M.no) ps.length) := by
  have no : ∀ vs H Q E, ¬ spF ⟨K, mg, w⟩ (fun _ => M.no) ps.length vs H Q E := fun vs H Q E h => by
    obtain ⟨ρ, ds, ro, w, _, _, _, q⟩ := h
    exact q
  exact ⟨fun vs H Q E h => absurd h (no vs H Q E), fun A outer s s1 H args us vs Q E _ _ _ _ _ h => absurd h (no vs H Q E)⟩
end
/-- a def with *args of the top, by its name: m parameters ahead of them; it's called with as many arguments as ns tells -/
structure CallOkV (P : Program) (w : World) (K : PySem.W.Frag) (mg : Str → Option Value) (base : Heap) (n : Nat) (x : Str) (g : List D → M D) (m : Nat) (ns : List Nat) : Prop where
  ex : ∃ a fd ps, mg x = some (.ref a) ∧ PySem.W.keepIn K (.ref a) = true ∧ (∀ j ∈ ns, Further fd ps m j) ∧ ps.length = m + 1 ∧ FnOkV P w K mg base n a fd ps (spF ⟨K, mg, w⟩ g (m + 1))
abbrev CallVX (X : Cx) (n : Nat) (x : Str) (g : List D → M D) (m : Nat) (ns : List Nat) : Prop := CallOkV X.prog X.w X.K X.mg X.base n x g m ns
theorem vals_drop {vs : List V} {us : List Value} (h : Vals vs us) : ∀ m, Vals (vs.drop m) (us.drop m) ∧ Vals (vs.take m) (us.take m) := by
  induction h with
  | nil =>
    intro m
    rw [List.drop_nil, List.drop_nil, List.take_nil, List.take_nil]
    exact ⟨.nil, .nil⟩
  | cons r _ ih =>
    rename_i h2
    intro m
    cases m with
    | zero => exact ⟨.cons r h2, .nil⟩
    | succ m => exact ⟨(ih m).1, .cons r (ih m).2⟩
theorem vals_app {vs vs' : List V} {us us' : List Value} (h : Vals vs us) (h' : Vals vs' us') : Vals (vs ++ vs') (us ++ us') := h.append h'
theorem reps_cut {C : Cfg} {ρ : Zn} {H : Hp} : ∀ {ds : List D} {vs : List V}, Reps C ρ H ds vs → ∀ m, Reps C ρ H (ds.drop m) (vs.drop m) ∧ Reps C ρ H (ds.take m) (vs.take m)
  | [], vs, h, m => by
    cases (show vs = [] from h)
    rw [List.drop_nil, List.drop_nil, List.take_nil, List.take_nil]
    exact ⟨rfl, rfl⟩
  | d :: ds, _, ⟨v, r, e, h1, h2⟩, m => by
    subst e
    cases m with
    | zero => exact ⟨⟨v, r, rfl, h1, h2⟩, rfl⟩
    | succ m => exact ⟨(reps_cut h2 m).1, ⟨v, _, rfl, h1, (reps_cut h2 m).2⟩⟩
theorem reps_snoc {C : Cfg} {ρ : Zn} {H : Hp} {d : D} {v : V} : ∀ {ds : List D} {vs : List V}, Reps C ρ H ds vs → Rep C ρ H d v → Reps C ρ H (ds ++ [d]) (vs ++ [v])
  | [], vs, h, hd => by
    cases (show vs = [] from h)
    exact ⟨v, [], rfl, hd, rfl⟩
  | e :: ds, _, ⟨u, r, q, h1, h2⟩, hd => by
    subst q
    exact ⟨u, _, rfl, h1, reps_snoc h2 hd⟩
section
variable {X : Cx} {W : WX} {pos p : Pos} {e : Expr} {es : List Expr} {x : Str} {g : List D → M D} {m n : Nat} {ns : List Nat} {fs : Fx.Env → M (List D)}
/-- what is passed -/
def gVar (m k : Nat) (g : List D → M D) : List D → M D := fun ds => if ds.length = k then g (ds.take m ++ [.tup (ds.drop m)]) else M.no
theorem pf_callVar (k : Nat) (F : CallVX X n x g m ns) (hk' : k ∈ ns) (h1 : k ≤ 1000) (hmk : m ≤ k) (hr : Room n X.A) (hx : PassW X W) (hg : Gl X x) (ha : PA X (e :: es) (tA (cfg X) W fs)) (hdb : (x == ("__debug__" : Str)) = false := by decide)
    (he : starEach (e :: es) X.env = (false, eval e X.env) :: starEach es X.env := by rfl) (hpl : (backTo pos (starEach es X.env)).any (·.1) = false := by rfl) : PE X (.Call (.Name x p) (e :: es) [] pos) (tE (cfg X) W (cCall (gVar m k g) fs)) := by
  obtain ⟨a, fd, ps, hm, hk, hb, hps, ok⟩ := F.ex
  refine ⟨fun pins s σ H Q I ⟨ρ, env, ro, w, hS, hE, q⟩ => ?_⟩
  refine wpAny_Call_Name_kw (ld_glob I hg hm ?_ hdb)
  refine PySem.W.callWith_K (h₀ := X.base) I.ok.mod.kin hk (thn (ha.run pos pins s σ H (fun vs H1 => ∃ (ρ1 : Zn) (ds : List D) (w1 : List D), ds.length = k ∧ RepS (cfg X) ρ1 H1 (ro ++ w1) ∧ Reps (cfg X) ρ1 H1 ds vs ∧ AfterR (cfg X) (Rep (cfg X)) W σ ρ1 H1 ro (g (ds.take m ++ [.tup (ds.drop m)]) ro w1) Q) I ?_) fun us s1 ⟨vs, H1, I1, r, ρ1, ds, w1, hl, s1S, r1, q1⟩ => ⟨I1.kIn, ?_⟩) he hpl
  · refine tR_seq hS hE q fun ds w1 vs ρ1 H1 x1 s1 r1 q1 => ?_
    unfold gVar at q1
    by_cases c : ds.length = k
    · rw [if_pos c] at q1
      exact ⟨ρ1, ds, w1, c, s1, r1, q1⟩
    · rw [if_neg c] at q1
      exact (show False from q1).elim
  · show wpAny _ _ (call (.ref a) us) _ _ _
    have hul : us.length = k := by rw [← r.length, ← r1.len, hl]
    obtain ⟨vd, vt⟩ := vals_drop r m
    have hz : (us.drop m).length ≤ sizeLine := by rw [List.length_drop, sizeLine_eq]; omega
    have hn : H1 s1.heap.objs.size = none := I1.hok.fresh (Nat.le_refl _)
    have I2 : Inv X pins σ (upd H1 s1.heap.objs.size (.tup (vs.drop m))) { s1 with heap := s1.heap.push { cls := .type "tuple", data := .seq (us.drop m).toArray } } :=
      I1.laid (t' := s1.toks) (fun b u e => Heap.get?_push_of_some _ e) (Nat.le_refl _) ⟨by rw [vd.length]; exact hz, us.drop m, vd, ⟨_, Heap.get?_push_size _ rfl, rfl, _, rfl⟩⟩
    have bd : ∀ (M : Model) (A : Around) (E : Value → Shared → Prop) (Q : List (Str × Value) → Shared → Prop), Q (ps.zip (us.take m ++ [.ref s1.heap.objs.size])) { s1 with heap := s1.heap.push { cls := .type "tuple", data := .seq (us.drop m).toArray } } → wpAny M A (bindArgs fd ⟨us, []⟩) Q E s1 := fun M A E Q h => by
      rw [hb k hk' us hul]
      exact wpAny_bind (wpAny_newTuple (wpAny_pure h) hz)
    obtain ⟨rd, rt⟩ := reps_cut r1 m
    have xn := ext_new s1S hn (o := .tup (vs.drop m))
    have sp : spF ⟨X.K, X.mg, X.w⟩ g (m + 1) (vs.take m ++ [.ref s1.heap.objs.size]) (upd H1 s1.heap.objs.size (.tup (vs.drop m))) Q (WE W σ) := by
      refine ⟨ρ1, ds.take m ++ [.tup (ds.drop m)], ro, w1, ?_, reps_new s1S hn, reps_snoc (Reps.ext xn _ rt) ?_, ?_⟩
      · rw [List.length_append, List.length_take, ← r1.len, hl, List.length_singleton, Nat.min_eq_left hmk]
      · exact ⟨s1.heap.objs.size, vs.drop m, rfl, .inl ⟨s1S.fresh hn, .inl upd_same⟩, Reps.ext xn _ rd⟩
      · exact (q1.ext xn).sig
    refine wpAny_call (codeAny_mono (ok.run X.A X.stack s1 _ _ ⟨us, []⟩ _ _ Q (WE W σ) hr I1.kIn I2.env0 bd (vals_app vt (.cons (show RelV (.ref s1.heap.objs.size) (Value.ref s1.heap.objs.size) from rfl) .nil)) sp) fun r s' hq => ?_)
    cases r with
    | error e => exact hx σ pins _ _ e s' I2 hq
    | ok fl =>
      cases fl with
      | ret u => exact I2.after hq
      | next => exact False.elim hq
      | brk => exact False.elim hq
      | cont => exact False.elim hq
end
end Fx
/-! A constant table of defs: a key in it, a call of what stands in it. -/
namespace Fx
open PySem PySem.Spec L2 PyProof.Rows PySem.W
theorem kd_fn {C : Cfg} {x : Str} {a : Addr} (h : C.mg x = some (.ref a)) : KD C (.fn x) (.ref a) := fun _ _ => ⟨a, h, rfl⟩
theorem kd_str {C : Cfg} {x : Str} : KD C (.str x) (.str x) := fun _ _ => rfl
/-- a table with some keys that it lacks -/
structure TabF (C : Cfg) (x : Str) (rows : List (Str × D)) (miss : List Str) : Prop where
  ex : ∃ p, C.mg x = some (.ref p) ∧ (p == sysModules) = false ∧ (∀ q ∈ rows, ∃ v, KDct C.K C.w p q.1 v ∧ KD C q.2 v) ∧ ∀ z ∈ miss, KMiss C.K C.w p z
def tabHas (rows : List (Str × D)) (x : Str) : Bool := rows.any fun q => decide (q.1 = x)
def gTabIn (rows : List (Str × D)) (miss : List Str) (d : D) : M D := match d with
  | .str x => if tabHas rows x = true then M.pure (.bl true) else if miss.contains x = true then M.pure (.bl false) else M.no
  | _ => M.no
def cTabIn (rows : List (Str × D)) (miss : List Str) (fe : EF) : EF := fun env => M.bind (fe env) fun d => M.bind (M.see d) fun d => gTabIn rows miss d
section
variable {X : Cx} {W : WX} {pos p pos' : Pos} {e ef : Expr} {es : List Expr} {x : Str} {rows : List (Str × D)} {miss : List Str} {fe ff : EF} {n : Nat} {fs : Fx.Env → M (List D)}
theorem TabF.tab (T : TabF (cfg X) x rows miss) : TabK (cfg X) x rows := by
  obtain ⟨p, h1, _, h2, _⟩ := T.ex
  exact ⟨⟨p, h1, h2⟩⟩
def rInTab (X : Cx) : R2 := fun x y H Q => ∃ p z b, x = .str z ∧ y = .ref p ∧ (p == sysModules) = false ∧ ((b = true ∧ ∃ v, KDct X.K X.w p z v) ∨ (b = false ∧ KMiss X.K X.w p z)) ∧ Q (.bl b) H
theorem op_inTab : OpR X (compareOp .In) (rInTab X) := by
  intro pins s σ H x y v u Q I rx ry h
  obtain ⟨p, z, b, rfl, rfl, hp, kd, q⟩ := h
  obtain ⟨t, rfl⟩ := rx
  obtain rfl : u = Value.ref p := ry
  rcases kd with ⟨rfl, v, es, n, r, hl, hk, e, ru⟩ | ⟨rfl, es, n, hl, hk, _, e⟩
  · have hm := PySem.W.mapOf_K (prog := X.prog) (w := X.w) I.kIn hl hk
    refine wpAny_in_of (strKind_is X.prog X.w z t) hp hm ?_
    rw [PySem.W.find_K hl e]
    exact ⟨.bl true, H, I.tok _, rfl, q⟩
  · have hm := PySem.W.mapOf_K (prog := X.prog) (w := X.w) I.kIn hl hk
    refine wpAny_in_of (strKind_is X.prog X.w z t) hp hm ?_
    rw [PySem.W.find_K hl e]
    exact ⟨.bl false, H, I.tok _, rfl, q⟩
/-- e in NAME -/
theorem pf_tabIn (T : TabF (cfg X) x rows miss) (hg : Gl X x) (he : PE X e (tE (cfg X) W fe)) (hd : (x == ("__debug__" : Str)) = false := by decide) (hb : behindInMarks .In (.Name x pos') = false := by rfl) : PE X (.Compare e [.In] [.Name x pos'] pos) (tE (cfg X) W (cTabIn rows miss fe)) := by
  obtain ⟨p, hm, hp, hr, hn⟩ := T.ex
  refine pe_imp (pe_cmpR op_inTab he (pe_glob (v := .ref p) hg hm rfl hd) hb) fun σ H Q ⟨ρ, env, ro, w, hS, hE, q⟩ => ?_
  refine tR_seq hS hE q fun d w1 v ρ1 H1 x1 s1 r1 q1 => ?_
  have sd := seen_of s1 r1
  have q2 : AfterR (cfg X) (Rep (cfg X)) W σ ρ1 H1 ro (gTabIn rows miss (see ro w1 d) ro w1) Q := q1
  generalize see ro w1 d = d' at sd q2
  unfold gTabIn at q2
  cases d' with
  | str z =>
    simp only at q2
    by_cases c : tabHas rows z = true
    · rw [if_pos c] at q2
      unfold tabHas at c
      rw [List.any_eq_true] at c
      obtain ⟨r, hr', ez⟩ := c
      have ez := of_decide_eq_true ez
      obtain ⟨v', k1, k2⟩ := hr _ hr'
      rw [ez] at k1
      exact ⟨p, z, true, sd.str, rfl, hp, .inl ⟨rfl, v', k1⟩, ok_bl s1 q2⟩
    · rw [if_neg c] at q2
      by_cases c2 : miss.contains z = true
      · rw [if_pos c2] at q2
        exact ⟨p, z, false, sd.str, rfl, hp, .inr ⟨rfl, hn z (List.contains_iff_mem.mp c2)⟩, ok_bl s1 q2⟩
      · rw [if_neg c2] at q2
        exact (show False from q2).elim
  | _ => exact (show False from q2).elim
/-- a call of what an expression tells -/
def cCallE (T : Tab) (ff : EF) (fs : Fx.Env → M (List D)) : EF := fun env => M.bind (ff env) fun d => match d with
  | .fn y => (match T.get y with
    | some g => M.bind (fs env) g
    | none => M.no)
  | _ => M.no
theorem pf_callE {T : Tab} (hT : TabOk X n T) (hr : Room n X.A) (hx : PassW X W) (hf : PE X ef (tE (cfg X) W ff)) (ha : PA X (e :: es) (tA (cfg X) W fs))
    (hc : ∀ env, eval (.Call ef (e :: es) [] pos) env = (do callWith pos (← eval ef env) [] (backTo pos (starEach (e :: es) env)) (backToKw pos (keywordEach [] env))) := by intros; rfl)
    (he : starEach (e :: es) X.env = (false, eval e X.env) :: starEach es X.env := by rfl) (hpl : (backTo pos (starEach es X.env)).any (·.1) = false := by rfl) : PE X (.Call ef (e :: es) [] pos) (tE (cfg X) W (cCallE T ff fs)) := by
  refine ⟨fun pins s σ H Q I ⟨ρ, env, ro, w, hS, hE, q⟩ => ?_⟩
  refine Call_ (thn (hf.run pins s σ H (fun v H1 => ∃ (y : Str) (a : Addr) (g : List D → M D) (np : Nat) (ρ1 : Zn) (w1 : List D), v = .ref a ∧ X.mg y = some (.ref a) ∧ CallX X n y g np ∧ RepS (cfg X) ρ1 H1 (ro ++ w1) ∧ RepE (cfg X) ρ1 H1 env σ ∧ AfterR (cfg X) (Rep (cfg X)) W σ ρ1 H1 ro (M.bind (fs env) (fun ds => if ds.length = np then g ds else M.no) ro w1) Q) I ?_) fun u s1 ⟨v, H1, I1, r1, y, a, g, np, ρ1, w1, ev, hm', F, s1S, e1, q1⟩ => ?_) (hc _)
  · refine tR_seq hS hE q fun d w1 v ρ1 H1 x1 s1 r1 q1 => ?_
    cases d with
    | fn y =>
      simp only at q1
      cases e2 : T.find? (fun q => q.1 == y) with
      | none =>
        have eT : T.get y = none := by unfold Tab.get; rw [e2]
        rw [eT] at q1
        exact (show False from q1).elim
      | some r =>
        obtain ⟨y', np, g⟩ := r
        have hy : y' = y := by
          have := List.find?_some e2
          simpa using this
        subst hy
        have eT : T.get y' = some fun ds => if ds.length = np then g ds else M.no := by unfold Tab.get; rw [e2]
        rw [eT] at q1
        obtain ⟨a, h2, h3⟩ := r1
        exact ⟨y', a, g, np, ρ1, w1, h3, h2, hT _ (List.mem_of_find?_eq_some e2), s1, hE.ext x1, q1⟩
    | _ => exact (show False from q1).elim
  · subst ev
    obtain ⟨a', fd, ps, hm, hk, hb, hps, ok⟩ := F.ex
    cases hm.symm.trans hm'
    cases r1
    refine PySem.W.callWith_K (h₀ := X.base) I.ok.mod.kin hk (thn (ha.run pos pins s1 σ _ (fun vs H2 => spF ⟨X.K, X.mg, X.w⟩ g np vs H2 Q (WE W σ)) I1 ?_) fun us s2 ⟨vs, H2, I2, r, q⟩ => ⟨I2.kIn, ?_⟩) he hpl
    · refine tR_seq s1S e1 q1 fun ds w2 vs ρ2 H2 x2 s2 r2 q2 => ?_
      by_cases c : ds.length = np
      · rw [if_pos c] at q2
        exact ⟨ρ2, ds, ro, w2, by rw [← r2.len]; exact c, s2, r2, q2.sig⟩
      · rw [if_neg c] at q2
        exact (show False from q2).elim
    · exact run_fnS ok hr hb (hx σ) I2 r q
end
section
variable {ro w : List D} {env : Fx.Env} {fe : EF} {rows : List (Str × D)} {miss : List Str}
theorem x_tabIn : cTabIn rows miss fe env ro w = (fe env ro w).an fun d w1 => gTabIn rows miss (see ro w1 d) ro w1 := by
  show M.bind (fe env) _ ro w = _
  simp
theorem x_callE {T : Tab} {ff : EF} {x : Str} {g : List D → M D} {fs : Fx.Env → M (List D)} {w1 : List D} (h : ff env ro w = .ok (.fn x) w1) (hg : T.get x = some g) : cCallE T ff fs env ro w = (fs env ro w1).an fun ds w2 => g ds ro w2 := by
  show M.bind (ff env) _ ro w = _
  rw [x_bind, h, an_ok]
  simp only [hg]
  exact x_bind
end
end Fx
/-! Two lists joined to one that may change. -/
namespace Fx
open PySem PySem.Spec L2 PyProof.Rows
def gAddM (x y : D) : M D := match x, y with
  | .lst a, .lst b => fun ro w => if a.length + b.length ≤ sizeLine then mNew (.lst (a ++ b)) ro w else .no
  | _, _ => M.no
theorem ok2_addM {C : Cfg} : Ok2 C (fun x y H Q => (∃ i j, x = .int i ∧ y = .int j ∧ Q (.int (i + j)) H) ∨ (∃ i j, x = .str i ∧ y = .str j ∧ i.length + j.length ≤ sizeLine ∧ Q (.str (i ++ j)) H) ∨ rCatA C.K x y H Q ∨ rCatL C.K x y H Q) gAddM := by
  intro W σ ρ H ro w d e x y Q hS hd he q
  unfold gAddM at q
  split at q
  · rename_i a b
    by_cases c : a.length + b.length ≤ sizeLine
    · simp only [if_pos c] at q
      obtain ⟨l, vs, rfl, h1, r1⟩ := hd.lst
      obtain ⟨m, us, rfl, h2, r2⟩ := he.lst
      exact .inr (.inr (.inr ⟨l, m, vs, us, rfl, rfl, h1, h2, by rw [← r1.len, ← r2.len]; exact c, ok_newL hS (r1.append r2) q⟩))
    · simp only [if_neg c] at q
      exact (show False from q).elim
  · exact (show False from q).elim
end Fx
namespace K
open PySem PySem.Spec L2 Fx
inductive Fn where
  | f_parts
  | f_modal_depth
  | f_is_plain
  | f_require_logic
  | f_ascending
  | f_added
  | f_require
  | f_axiom
  | f_cut
  | f_premises_of
  | f_is_weaker
  | f_is_right
  | f_first_wrong
  | f_is_derivation
  | f_conclusion_of
  | f_derives
  | f_renumbered
  | f_joined
  | f_law_cell
  | f_law_numbers
  | f_law_formula
  | f_law_goal
  | f_law_logic
  | f_law_add
  | f_law_two
  | f_law

def topS (i : Nat) : Stmt := PySem.Challenge.pw_elsewhere_k39_joined_derivations.main.body.getD i (.Pass ⟨0, 0, 0, 0⟩)

def g_MODAL : D := .tup [.str "K", .str "D", .str "T", .str "K4", .str "D4", .str "S4", .str "S5", .str "GL", .str "Grz"]

def g_INTERMEDIATE : D := .tup [.str "Int", .str "KC", .str "LC", .str "BD2", .str "HT", .str "Cl"]

def t_RULES : List (Str × D) := [("axiom", .tup [.fn "axiom", .tup [.str "K", .str "D", .str "T", .str "K4", .str "D4", .str "S4", .str "S5", .str "GL", .str "Grz", .str "Int", .str "KC", .str "LC", .str "BD2", .str "HT", .str "Cl"]]), ("cut", .tup [.fn "cut", .tup [.str "K", .str "D", .str "T", .str "K4", .str "D4", .str "S4", .str "S5", .str "GL", .str "Grz", .str "Int", .str "KC", .str "LC", .str "BD2", .str "HT", .str "Cl"]])]

def csL : List Str := ["UnknownLogic", "NoFit"]
def usL : List Str := ["NoFit", "ElsewhereError"]
def subL (c u : Str) : Bool := [(("UnknownLogic" : Str), ("ElsewhereError" : Str)), (("NoFit" : Str), ("NoFit" : Str)), (("NoFit" : Str), ("ElsewhereError" : Str))].contains (c, u)

abbrev st_parts : Stmt := topS 7
theorem sc_parts : FnScope ["a"] ["a"] (defScope st_parts) := ⟨rfl, rfl, rfl, by decide +kernel, rfl, by decide +kernel, by decide +kernel⟩
def b_parts (cl : Fn → List D → M D) : SF :=
  sRet (cIf (cTest (cBin gIn (cBin gIx (cVar 0) (cK (.int 0))) (cTup (cArgs [cK (.str "var"), cK (.str "falsum")])))) (cTup (cArgs [])) (cSl (cVar 0) (cPart (cK (.int 1))) (cNoPart)))

abbrev st_modal_depth : Stmt := topS 8
theorem sc_modal_depth : FnScope ["a", "part"] ["a"] (defScope st_modal_depth) := ⟨rfl, rfl, rfl, by decide +kernel, rfl, by decide +kernel, by decide +kernel⟩
def b_modal_depth (cl : Fn → List D → M D) : SF :=
  sRet (cBin gAdd (cCall (one gInt) (cArgs [cBin gEq (cBin gIx (cVar 0) (cK (.int 0))) (cK (.str "box"))])) (cMaxD (cComp (.nm 1) [1] (cSeq (cCall (fun ds => if ds.length = 1 then cl .f_parts ds else M.no) (cArgs [cVar 0]))) (cYes) (cCall (fun ds => if ds.length = 1 then cl .f_modal_depth ds else M.no) (cArgs [cVar 1])) kStill) (cK (.int 0))))

abbrev st_is_plain : Stmt := topS 9
theorem sc_is_plain : FnScope ["a"] ["a"] (defScope st_is_plain) := ⟨rfl, rfl, rfl, by decide +kernel, rfl, by decide +kernel, by decide +kernel⟩
def b_is_plain (cl : Fn → List D → M D) : SF :=
  sRet (cBin gEq (cCall (fun ds => if ds.length = 1 then cl .f_modal_depth ds else M.no) (cArgs [cVar 0])) (cK (.int 0)))

abbrev st_require_logic : Stmt := topS 16
theorem sc_require_logic : FnScope ["logic"] ["logic"] (defScope st_require_logic) := ⟨rfl, rfl, rfl, by decide +kernel, rfl, by decide +kernel, by decide +kernel⟩
def b_require_logic (cl : Fn → List D → M D) : SF :=
  sIf (cTest (cBin gNotIn (cVar 0) (cBin gAdd (cK g_MODAL) (cK g_INTERMEDIATE)))) (sRaise "UnknownLogic") (sNil)

abbrev st_ascending : Stmt := topS 18
theorem sc_ascending : FnScope ["formulas"] ["formulas"] (defScope st_ascending) := ⟨rfl, rfl, rfl, by decide +kernel, rfl, by decide +kernel, by decide +kernel⟩
def b_ascending (cl : Fn → List D → M D) : SF :=
  sRet (cCall (one gTuple) (cArgs [cCall (one gSSK) (cArgs [cVar 0])]))

abbrev st_added : Stmt := topS 19
theorem sc_added : FnScope ["side", "formulas"] ["side", "formulas"] (defScope st_added) := ⟨rfl, rfl, rfl, by decide +kernel, rfl, by decide +kernel, by decide +kernel⟩
def b_added (cl : Fn → List D → M D) : SF :=
  sRet (cCall (fun ds => if ds.length = 1 then cl .f_ascending ds else M.no) (cArgs [cBin gAdd (cVar 0) (cVar 1)]))

abbrev st_require : Stmt := topS 23
theorem sc_require : FnScope ["fits"] ["fits"] (defScope st_require) := ⟨rfl, rfl, rfl, by decide +kernel, rfl, by decide +kernel, by decide +kernel⟩
def b_require (cl : Fn → List D → M D) : SF :=
  sIf (cNotT (cTru (cVar 0))) (sRaise "NoFit") (sNil)

abbrev st_axiom : Stmt := topS 25
theorem sc_axiom : FnScope ["logic", "left", "right", "main"] ["logic", "left", "right", "main"] (defScope st_axiom) := ⟨rfl, rfl, rfl, by decide +kernel, rfl, by decide +kernel, by decide +kernel⟩
def b_axiom (cl : Fn → List D → M D) : SF :=
  sSeq (sExpr (cCall (fun ds => if ds.length = 1 then cl .f_require ds else M.no) (cArgs [cAnd (cBin gNotN (cVar 3) (cK .non)) (cAnd (cBin (gInT false) (cVar 3) (cVar 1)) (cBin (gInT false) (cVar 3) (cVar 2)))])))
  (sRet (cLst (cArgs [])))

abbrev st_cut : Stmt := topS 33
theorem sc_cut : FnScope ["logic", "left", "right", "main"] ["logic", "left", "right", "main"] (defScope st_cut) := ⟨rfl, rfl, rfl, by decide +kernel, rfl, by decide +kernel, by decide +kernel⟩
def b_cut (cl : Fn → List D → M D) : SF :=
  sSeq (sExpr (cCall (fun ds => if ds.length = 1 then cl .f_require ds else M.no) (cArgs [cAnd (cBin gNotN (cVar 3) (cK .non)) (cOr (cBin gIn (cVar 0) (cK g_MODAL)) (cCall (fun ds => if ds.length = 1 then cl .f_is_plain ds else M.no) (cArgs [cVar 3])))])))
  (sRet (cLst (cArgs [cTup (cArgs [cVar 1, cCall (gVar 1 2 (cl .f_added)) (cArgs [cVar 2, cVar 3])]), cTup (cArgs [cCall (gVar 1 2 (cl .f_added)) (cArgs [cVar 1, cVar 3]), cVar 2])])))

abbrev st_premises_of : Stmt := topS 45
theorem sc_premises_of : FnScope ["logic", "rule", "conclusion", "main"] ["logic", "rule", "conclusion", "main"] (defScope st_premises_of) := ⟨rfl, rfl, rfl, by decide +kernel, rfl, by decide +kernel, by decide +kernel⟩
def b_premises_of (cl : Fn → List D → M D) : SF :=
  sSeq (sExpr (cCall (fun ds => if ds.length = 1 then cl .f_require_logic ds else M.no) (cArgs [cVar 0])))
  (sSeq (sExpr (cCall (fun ds => if ds.length = 1 then cl .f_require ds else M.no) (cArgs [cAnd (cTabIn t_RULES ["weaken"] (cVar 1)) (cBin gIn (cVar 0) (cBin gIx (cTab t_RULES (cVar 1)) (cK (.int 1))))])))
  (sRet (cCallE [("axiom", 4, cl .f_axiom), ("cut", 4, cl .f_cut)] (cBin gIx (cTab t_RULES (cVar 1)) (cK (.int 0))) (cArgs [cVar 0, cBin gIx (cVar 2) (cK (.int 0)), cBin gIx (cVar 2) (cK (.int 1)), cVar 3]))))

abbrev st_is_weaker : Stmt := topS 47
theorem sc_is_weaker : FnScope ["conclusion", "premise", "side", "a"] ["conclusion", "premise"] (defScope st_is_weaker) := ⟨rfl, rfl, rfl, by decide +kernel, rfl, by decide +kernel, by decide +kernel⟩
def b_is_weaker (cl : Fn → List D → M D) : SF :=
  sSeq (sFor (.nm 2) (cSeq (cTup (cArgs [cK (.int 0), cK (.int 1)]))) (sIf (cTest (cBin gNe (cComp (.nm 3) [3] (cSeq (cBin gIx (cVar 1) (cVar 2))) (cTest (cBin (gInT true) (cVar 3) (cBin gIx (cVar 0) (cVar 2)))) (cVar 3) kStill) (cLst (cArgs [])))) (sRet (cK (.bl false))) (sNil)))
  (sRet (cK (.bl true)))

abbrev st_is_right : Stmt := topS 48
theorem sc_is_right : FnScope ["logic", "steps", "at", "rule", "conclusion", "main", "numbers", "premises", "number", "a"] ["logic", "steps", "at"] (defScope st_is_right) := ⟨rfl, rfl, rfl, by decide +kernel, rfl, by decide +kernel, by decide +kernel⟩
def b_is_right (cl : Fn → List D → M D) : SF :=
  sSeq (sAsg (.tp [3, 4, 5, 6]) (cBin gIx (cVar 1) (cVar 2)))
  (sSeq (sIf (cTest (cBin gNe (cComp (.nm 8) [8] (cSeq (cVar 6)) (cNotT (cTest (cChain gLe gLt (cK (.int 0)) (cVar 8) (cVar 2)))) (cVar 8) kStill) (cLst (cArgs [])))) (sRet (cK (.bl false))) (sNil))
  (sSeq (sIf (cAndT (cTest (cBin gIn (cVar 0) (cK g_INTERMEDIATE))) (cTest (cBin gNe (cComp (.nm 9) [9] (cSeq (cBin gAdd (cBin gIx (cVar 4) (cK (.int 0))) (cBin gIx (cVar 4) (cK (.int 1))))) (cNotT (cTru (cCall (fun ds => if ds.length = 1 then cl .f_is_plain ds else M.no) (cArgs [cVar 9])))) (cVar 9) kStill) (cLst (cArgs []))))) (sRet (cK (.bl false))) (sNil))
  (sSeq (sSet 7 (cComp (.nm 8) [8] (cSeq (cVar 6)) (cYes) (cBin gIx (cBin gIx (cVar 1) (cVar 8)) (cK (.int 1))) kStill))
  (sSeq (sIf (cTest (cBin gEq (cVar 3) (cK (.str "weaken")))) (sRet (cAnd (cBin gIsN (cVar 5) (cK .non)) (cAnd (cBin gEq (cCall (one gLen) (cArgs [cVar 7])) (cK (.int 1))) (cCall (fun ds => if ds.length = 2 then cl .f_is_weaker ds else M.no) (cArgs [cVar 4, cBin gIx (cVar 7) (cK (.int 0))]))))) (sNil))
  (sTryM [(subO csL subL "NoFit", sRet (cK (.bl false)))] (sRet (cBin gEq (cCall (fun ds => if ds.length = 4 then cl .f_premises_of ds else M.no) (cArgs [cVar 0, cVar 3, cVar 4, cVar 5])) (cVar 7))))))))

abbrev st_first_wrong : Stmt := topS 49
theorem sc_first_wrong : FnScope ["logic", "steps", "at"] ["logic", "steps"] (defScope st_first_wrong) := ⟨rfl, rfl, rfl, by decide +kernel, rfl, by decide +kernel, by decide +kernel⟩
def b_first_wrong (cl : Fn → List D → M D) : SF :=
  sSeq (sExpr (cCall (fun ds => if ds.length = 1 then cl .f_require_logic ds else M.no) (cArgs [cVar 0])))
  (sSeq (sFor (.nm 2) (cRng1 (cArgs [cCall (one gLen) (cArgs [cVar 1])])) (sIf (cNotT (cTru (cCall (fun ds => if ds.length = 3 then cl .f_is_right ds else M.no) (cArgs [cVar 0, cVar 1, cVar 2])))) (sRet (cVar 2)) (sNil)))
  (sRet (cUn gNeg (cK (.int 1)))))

abbrev st_is_derivation : Stmt := topS 50
theorem sc_is_derivation : FnScope ["logic", "steps"] ["logic", "steps"] (defScope st_is_derivation) := ⟨rfl, rfl, rfl, by decide +kernel, rfl, by decide +kernel, by decide +kernel⟩
def b_is_derivation (cl : Fn → List D → M D) : SF :=
  sRet (cChain gLt gLt (cCall (fun ds => if ds.length = 2 then cl .f_first_wrong ds else M.no) (cArgs [cVar 0, cVar 1])) (cK (.int 0)) (cCall (one gLen) (cArgs [cVar 1])))

abbrev st_conclusion_of : Stmt := topS 51
theorem sc_conclusion_of : FnScope ["steps"] ["steps"] (defScope st_conclusion_of) := ⟨rfl, rfl, rfl, by decide +kernel, rfl, by decide +kernel, by decide +kernel⟩
def b_conclusion_of (cl : Fn → List D → M D) : SF :=
  sRet (cBin gIx (cBin gIx (cVar 0) (cUn gNeg (cK (.int 1)))) (cK (.int 1)))

abbrev st_derives : Stmt := topS 52
theorem sc_derives : FnScope ["logic", "steps", "wanted"] ["logic", "steps", "wanted"] (defScope st_derives) := ⟨rfl, rfl, rfl, by decide +kernel, rfl, by decide +kernel, by decide +kernel⟩
def b_derives (cl : Fn → List D → M D) : SF :=
  sRet (cAnd (cCall (fun ds => if ds.length = 2 then cl .f_is_derivation ds else M.no) (cArgs [cVar 0, cVar 1])) (cBin gEq (cCall (fun ds => if ds.length = 1 then cl .f_conclusion_of ds else M.no) (cArgs [cVar 1])) (cVar 2)))

abbrev st_renumbered : Stmt := topS 53
theorem sc_renumbered : FnScope ["step", "numbers"] ["step", "numbers"] (defScope st_renumbered) := ⟨rfl, rfl, rfl, by decide +kernel, rfl, by decide +kernel, by decide +kernel⟩
def b_renumbered (cl : Fn → List D → M D) : SF :=
  sRet (cTup (cArgs [cBin gIx (cVar 0) (cK (.int 0)), cBin gIx (cVar 0) (cK (.int 1)), cBin gIx (cVar 0) (cK (.int 2)), cCall (one gTuple) (cArgs [cVar 1])]))

abbrev st_joined : Stmt := topS 54
theorem sc_joined : FnScope ["first", "second", "main", "left", "right", "goal", "fits", "by", "moved", "step", "a", "number"] ["first", "second", "main"] (defScope st_joined) := ⟨rfl, rfl, rfl, by decide +kernel, rfl, by decide +kernel, by decide +kernel⟩
def b_joined (cl : Fn → List D → M D) : SF :=
  sSeq (sAsg (.tp [3, 4]) (cCall (fun ds => if ds.length = 1 then cl .f_conclusion_of ds else M.no) (cArgs [cVar 0])))
  (sSeq (sSet 5 (cTup (cArgs [cVar 3, cCall (one gTuple) (cArgs [cComp (.nm 10) [10] (cSeq (cVar 4)) (cTest (cBin gNe (cVar 10) (cVar 2))) (cVar 10) kStill])])))
  (sSeq (sSet 6 (cAnd (cBin (gInT false) (cVar 2) (cVar 4)) (cBin (gInT true) (cVar 2) (cVar 3))))
  (sSeq (sIf (cOrT (cNotT (cTru (cVar 6))) (cTest (cBin gNe (cCall (fun ds => if ds.length = 1 then cl .f_conclusion_of ds else M.no) (cArgs [cVar 1])) (cTup (cArgs [cCall (gVar 1 2 (cl .f_added)) (cArgs [cVar 3, cVar 2]), cBin gIx (cVar 5) (cK (.int 1))]))))) (sRaise "NoFit") (sNil))
  (sSeq (sSet 7 (cCall (one gLen) (cArgs [cVar 0])))
  (sSeq (sSet 8 (cComp (.nm 9) [9] (cSeq (cVar 1)) (cYes) (cCall (fun ds => if ds.length = 2 then cl .f_renumbered ds else M.no) (cArgs [cVar 9, cComp (.nm 11) [11] (cSeq (cBin gIx (cVar 9) (cK (.int 3)))) (cYes) (cBin gAdd (cVar 11) (cVar 7)) kStill])) kStill))
  (sRet (cBin gAdd (cBin gAdd (cVar 0) (cVar 8)) (cLst (cArgs [cTup (cArgs [cK (.str "cut"), cVar 5, cVar 2, cTup (cArgs [cBin gSub (cVar 7) (cK (.int 1)), cBin gSub (cBin gAdd (cVar 7) (cCall (one gLen) (cArgs [cVar 1]))) (cK (.int 1))])])])))))))))

abbrev st_law_cell : Stmt := topS 56
theorem sc_law_cell : FnScope ["_law_script", "_law_k"] ["_law_script", "_law_k"] (defScope st_law_cell) := ⟨rfl, rfl, rfl, by decide +kernel, rfl, by decide +kernel, by decide +kernel⟩
def b_law_cell (cl : Fn → List D → M D) : SF :=
  sSeq (sIf (cTest (cBin gLt (cVar 1) (cCall (one gLen) (cArgs [cVar 0])))) (sRet (cBin gIx (cVar 0) (cVar 1))) (sNil))
  (sRet (cK (.int 0)))

abbrev st_law_numbers : Stmt := topS 57
theorem sc_law_numbers : FnScope ["_law_script", "_law_first", "_law_most", "_law_found", "_law_at", "_law_cell_here", "_law_k", "_law_mixed"] ["_law_script", "_law_first", "_law_most"] (defScope st_law_numbers) := ⟨rfl, rfl, rfl, by decide +kernel, rfl, by decide +kernel, by decide +kernel⟩
def b_law_numbers (cl : Fn → List D → M D) : SF :=
  sSeq (sSet 3 (cLstM (cArgs [])))
  (sSeq (sFor (.nm 4) (cRng2 (cArgs [cVar 1, cCall (one gLen) (cArgs [cVar 0])])) (sSeq (sSet 5 (cCall (one gAbs) (cArgs [cBin gIx (cVar 0) (cVar 4)])))
  (sIf (cTest (cBin gGe (cVar 5) (cK (.int 1000000000000000000)))) (sFor (.nm 6) (cRng1 (cArgs [cK (.int 60)])) (sIf (cAndT (cTest (cBin gGt (cVar 5) (cK (.int 0)))) (cTest (cBin gLt (cCall (one gLen) (cArgs [cVar 3])) (cVar 2)))) (sSeq (sExpr (cMl gAppend (cVar 3) (cArgs [cBin gMod (cCall (one gInt) (cArgs [cVar 5])) (cK (.int 4096))])))
  (sSet 5 (cBin gDiv (cVar 5) (cK (.int 4096))))) (sNil))) (sIf (cTest (cBin gLt (cCall (one gLen) (cArgs [cVar 3])) (cVar 2))) (sSeq (sSet 7 (cBin gMod (cCall (one gInt) (cArgs [cBin gAdd (cBin gAdd (cBin gMul (cVar 5) (cK (.int 48271))) (cBin gMul (cVar 4) (cK (.int 69621)))) (cK (.int 12345))])) (cK (.int 2147483647))))
  (sSeq (sSet 7 (cBin gMod (cCall (one gInt) (cArgs [cBin gAdd (cBin gMul (cVar 7) (cK (.int 69621))) (cBin gDiv (cVar 7) (cK (.int 1009)))])) (cK (.int 1000003))))
  (sExpr (cMl gAppend (cVar 3) (cArgs [cBin gMod (cCall (one gInt) (cArgs [cVar 7])) (cK (.int 4096))]))))) (sNil)))))
  (sRet (cVar 3)))

abbrev st_law_formula : Stmt := topS 58
theorem sc_law_formula : FnScope ["_law_pool", "_law_depth", "_law_plain", "_law_number", "_law_kind", "_law_first"] ["_law_pool", "_law_depth", "_law_plain"] (defScope st_law_formula) := ⟨rfl, rfl, rfl, by decide +kernel, rfl, by decide +kernel, by decide +kernel⟩
def b_law_formula (cl : Fn → List D → M D) : SF :=
  sSeq (sSet 3 (cK (.int 0)))
  (sSeq (sIf (cTest (cBin gNe (cVar 0) (cLst (cArgs [])))) (sSet 3 (cCall (one gInt) (cArgs [cMl gPopAt (cVar 0) (cArgs [cK (.int 0)])]))) (sNil))
  (sSeq (sSet 4 (cBin gMod (cCall (one gInt) (cArgs [cVar 3])) (cK (.int 10))))
  (sSeq (sIf (cOrT (cTest (cBin gEq (cVar 1) (cK (.int 0)))) (cTest (cBin gLt (cVar 4) (cK (.int 2))))) (sSeq (sIf (cTest (cBin gEq (cBin gMod (cBin gDiv (cVar 3) (cK (.int 10))) (cK (.int 8))) (cK (.int 0)))) (sRet (cTup (cArgs [cK (.str "falsum")]))) (sNil))
  (sRet (cTup (cArgs [cK (.str "var"), cBin gIx (cLst (cArgs [cK (.str "p"), cK (.str "q"), cK (.str "p"), cK (.str "q"), cK (.str "r")])) (cBin gMod (cBin gDiv (cVar 3) (cK (.int 80))) (cK (.int 5)))])))) (sNil))
  (sSeq (sIf (cOrT (cTest (cBin gEq (cVar 4) (cK (.int 2)))) (cAndT (cTest (cBin gIn (cVar 4) (cTup (cArgs [cK (.int 3), cK (.int 4)])))) (cTru (cVar 2)))) (sRet (cTup (cArgs [cK (.str "implies"), cCall (fun ds => if ds.length = 3 then cl .f_law_formula ds else M.no) (cArgs [cVar 0, cBin gSub (cVar 1) (cK (.int 1)), cVar 2]), cTup (cArgs [cK (.str "falsum")])]))) (sNil))
  (sSeq (sIf (cTest (cBin gIn (cVar 4) (cTup (cArgs [cK (.int 3), cK (.int 4)])))) (sRet (cTup (cArgs [cK (.str "box"), cCall (fun ds => if ds.length = 3 then cl .f_law_formula ds else M.no) (cArgs [cVar 0, cBin gSub (cVar 1) (cK (.int 1)), cVar 2])]))) (sNil))
  (sSeq (sSet 5 (cCall (fun ds => if ds.length = 3 then cl .f_law_formula ds else M.no) (cArgs [cVar 0, cBin gSub (cVar 1) (cK (.int 1)), cVar 2])))
  (sRet (cTup (cArgs [cBin gIx (cLst (cArgs [cK (.str "and"), cK (.str "or"), cK (.str "implies"), cK (.str "implies"), cK (.str "or")])) (cBin gSub (cVar 4) (cK (.int 5))), cVar 5, cCall (fun ds => if ds.length = 3 then cl .f_law_formula ds else M.no) (cArgs [cVar 0, cBin gSub (cVar 1) (cK (.int 1)), cVar 2])])))))))))

abbrev st_law_goal : Stmt := topS 59
theorem sc_law_goal : FnScope ["_law_pool", "_law_most", "_law_plain", "_law_sides", "_law_k", "_law_many", "_law_j"] ["_law_pool", "_law_most", "_law_plain"] (defScope st_law_goal) := ⟨rfl, rfl, rfl, by decide +kernel, rfl, by decide +kernel, by decide +kernel⟩
def b_law_goal (cl : Fn → List D → M D) : SF :=
  sSeq (sSet 3 (cLstM (cArgs [])))
  (sSeq (sFor (.nm 4) (cRng1 (cArgs [cK (.int 2)])) (sSeq (sSet 5 (cK (.int 1)))
  (sSeq (sIf (cTest (cBin gNe (cVar 0) (cLst (cArgs [])))) (sSet 5 (cBin gMod (cCall (one gInt) (cArgs [cMl gPopAt (cVar 0) (cArgs [cK (.int 0)])])) (cBin gAdd (cVar 1) (cK (.int 1))))) (sNil))
  (sExpr (cMl gAppend (cVar 3) (cArgs [cCall (one gTuple) (cArgs [cCall (one gSSK) (cArgs [cComp (.nm 6) [6] (cRng1 (cArgs [cVar 5])) (cYes) (cCall (fun ds => if ds.length = 3 then cl .f_law_formula ds else M.no) (cArgs [cVar 0, cK (.int 2), cVar 2])) kStill])])]))))))
  (sRet (cTup (cArgs [cBin gIx (cVar 3) (cK (.int 0)), cBin gIx (cVar 3) (cK (.int 1))]))))

abbrev st_law_logic : Stmt := topS 60
theorem sc_law_logic : FnScope ["_law_number", "_law_plain", "_law_logics"] ["_law_number", "_law_plain"] (defScope st_law_logic) := ⟨rfl, rfl, rfl, by decide +kernel, rfl, by decide +kernel, by decide +kernel⟩
def b_law_logic (cl : Fn → List D → M D) : SF :=
  sSeq (sSet 2 (cLst (cArgs [cK (.str "K"), cK (.str "D"), cK (.str "T"), cK (.str "K4"), cK (.str "D4"), cK (.str "S4"), cK (.str "S5"), cK (.str "GL"), cK (.str "Grz"), cK (.str "Int"), cK (.str "KC"), cK (.str "LC"), cK (.str "BD2"), cK (.str "HT"), cK (.str "Cl")])))
  (sSeq (sIf (cTru (cVar 1)) (sRet (cBin gIx (cVar 2) (cBin gMod (cCall (one gInt) (cArgs [cVar 0])) (cK (.int 15))))) (sNil))
  (sRet (cBin gIx (cVar 2) (cBin gMod (cCall (one gInt) (cArgs [cVar 0])) (cK (.int 9))))))

abbrev st_law_add : Stmt := topS 61
theorem sc_law_add : FnScope ["_law_side", "_law_formulas"] ["_law_side", "_law_formulas"] (defScope st_law_add) := ⟨rfl, rfl, rfl, by decide +kernel, rfl, by decide +kernel, by decide +kernel⟩
def b_law_add (cl : Fn → List D → M D) : SF :=
  sRet (cCall (one gTuple) (cArgs [cCall (one gSSK) (cArgs [cBin gAdd (cVar 0) (cCall (one gTuple) (cArgs [cVar 1]))])]))

abbrev st_law_two : Stmt := topS 66
theorem sc_law_two : FnScope ["_law_goal_here", "_law_shared", "_law_axiom"] ["_law_goal_here", "_law_shared"] (defScope st_law_two) := ⟨rfl, rfl, rfl, by decide +kernel, rfl, by decide +kernel, by decide +kernel⟩
def b_law_two (cl : Fn → List D → M D) : SF :=
  sSeq (sSet 2 (cTup (cArgs [cK (.str "axiom"), cTup (cArgs [cTup (cArgs [cVar 1]), cTup (cArgs [cVar 1])]), cVar 1, cTup (cArgs [])])))
  (sRet (cLst (cArgs [cVar 2, cTup (cArgs [cK (.str "weaken"), cTup (cArgs [cCall (fun ds => if ds.length = 2 then cl .f_law_add ds else M.no) (cArgs [cBin gIx (cVar 0) (cK (.int 0)), cLst (cArgs [cVar 1])]), cCall (fun ds => if ds.length = 2 then cl .f_law_add ds else M.no) (cArgs [cBin gIx (cVar 0) (cK (.int 1)), cLst (cArgs [cVar 1])])]), cK .non, cTup (cArgs [cK (.int 0)])])])))

abbrev st_law : Stmt := topS 67
theorem sc_law : FnScope ["_law_script", "_law_digit", "_law_plain", "_law_logic_here", "_law_pool", "_law_goal_here", "_law_shared", "_law_m", "_law_base", "_law_first", "_law_second", "_law_way", "_law_asked", "_law_left", "_law_right", "_law_fits", "_law_given", "_law_due", "_law_actual", "e", "_law_a"] ["_law_script"] (defScope st_law) := ⟨rfl, rfl, rfl, by decide +kernel, rfl, by decide +kernel, by decide +kernel⟩
def b_law (cl : Fn → List D → M D) : SF :=
  sSeq (sSet 1 (cCall (one gAbs) (cArgs [cCall (fun ds => if ds.length = 2 then cl .f_law_cell ds else M.no) (cArgs [cVar 0, cK (.int 0)])])))
  (sSeq (sSet 2 (cBin gEq (cBin gMod (cCall (one gInt) (cArgs [cVar 1])) (cK (.int 2))) (cK (.int 0))))
  (sSeq (sSet 3 (cCall (fun ds => if ds.length = 2 then cl .f_law_logic ds else M.no) (cArgs [cCall (one gAbs) (cArgs [cCall (fun ds => if ds.length = 2 then cl .f_law_cell ds else M.no) (cArgs [cVar 0, cK (.int 1)])]), cVar 2])))
  (sSeq (sSet 4 (cCall (fun ds => if ds.length = 3 then cl .f_law_numbers ds else M.no) (cArgs [cVar 0, cK (.int 2), cK (.int 40)])))
  (sSeq (sSet 5 (cCall (fun ds => if ds.length = 3 then cl .f_law_goal ds else M.no) (cArgs [cVar 4, cK (.int 2), cVar 2])))
  (sSeq (sSet 6 (cCall (fun ds => if ds.length = 3 then cl .f_law_formula ds else M.no) (cArgs [cVar 4, cK (.int 1), cVar 2])))
  (sSeq (sSet 7 (cCall (fun ds => if ds.length = 3 then cl .f_law_formula ds else M.no) (cArgs [cVar 4, cK (.int 2), cVar 2])))
  (sSeq (sSet 8 (cTup (cArgs [cCall (fun ds => if ds.length = 2 then cl .f_law_add ds else M.no) (cArgs [cBin gIx (cVar 5) (cK (.int 0)), cLst (cArgs [cVar 6])]), cCall (fun ds => if ds.length = 2 then cl .f_law_add ds else M.no) (cArgs [cBin gIx (cVar 5) (cK (.int 1)), cLst (cArgs [cVar 6])])])))
  (sSeq (sSet 9 (cCall (fun ds => if ds.length = 2 then cl .f_law_two ds else M.no) (cArgs [cTup (cArgs [cBin gIx (cVar 8) (cK (.int 0)), cCall (fun ds => if ds.length = 2 then cl .f_law_add ds else M.no) (cArgs [cBin gIx (cVar 8) (cK (.int 1)), cLst (cArgs [cVar 7])])]), cVar 6])))
  (sSeq (sSet 10 (cCall (fun ds => if ds.length = 2 then cl .f_law_two ds else M.no) (cArgs [cTup (cArgs [cCall (fun ds => if ds.length = 2 then cl .f_law_add ds else M.no) (cArgs [cBin gIx (cVar 8) (cK (.int 0)), cLst (cArgs [cVar 7])]), cBin gIx (cVar 8) (cK (.int 1))]), cVar 6])))
  (sSeq (sSet 11 (cBin gMod (cBin gDiv (cVar 1) (cK (.int 2))) (cK (.int 8))))
  (sSeq (sIf (cTest (cBin gEq (cVar 11) (cK (.int 1)))) (sSet 10 (cCall (fun ds => if ds.length = 2 then cl .f_law_two ds else M.no) (cArgs [cTup (cArgs [cBin gIx (cVar 8) (cK (.int 0)), cCall (fun ds => if ds.length = 2 then cl .f_law_add ds else M.no) (cArgs [cBin gIx (cVar 8) (cK (.int 1)), cLst (cArgs [cVar 7])])]), cVar 6]))) (sNil))
  (sSeq (sIf (cTest (cBin gEq (cVar 11) (cK (.int 2)))) (sSet 9 (cCall (fun ds => if ds.length = 2 then cl .f_law_two ds else M.no) (cArgs [cVar 8, cVar 6]))) (sNil))
  (sSeq (sIf (cTest (cBin gEq (cVar 11) (cK (.int 3)))) (sSet 10 (cCall (fun ds => if ds.length = 2 then cl .f_law_two ds else M.no) (cArgs [cTup (cArgs [cCall (fun ds => if ds.length = 2 then cl .f_law_add ds else M.no) (cArgs [cBin gIx (cVar 8) (cK (.int 0)), cLst (cArgs [cVar 7])]), cCall (fun ds => if ds.length = 2 then cl .f_law_add ds else M.no) (cArgs [cBin gIx (cVar 8) (cK (.int 1)), cLst (cArgs [cTup (cArgs [cK (.str "implies"), cVar 7, cVar 7])])])]), cVar 6]))) (sNil))
  (sSeq (sSet 12 (cVar 7))
  (sSeq (sIf (cTest (cBin gEq (cVar 11) (cK (.int 4)))) (sSet 12 (cTup (cArgs [cK (.str "and"), cVar 7, cVar 7]))) (sNil))
  (sSeq (sSet 13 (cBin gIx (cBin gIx (cBin gIx (cVar 9) (cK (.int 1))) (cK (.int 1))) (cK (.int 0))))
  (sSeq (sSet 14 (cCall (one gTuple) (cArgs [cComp (.nm 20) [20] (cSeq (cBin gIx (cBin gIx (cBin gIx (cVar 9) (cK (.int 1))) (cK (.int 1))) (cK (.int 1)))) (cTest (cBin gNe (cVar 20) (cVar 12))) (cVar 20) kStill])))
  (sSeq (sSet 15 (cAnd (cBin (gInT false) (cVar 12) (cBin gIx (cBin gIx (cBin gIx (cVar 9) (cK (.int 1))) (cK (.int 1))) (cK (.int 1)))) (cAnd (cBin (gInT true) (cVar 12) (cVar 13)) (cBin gEq (cBin gIx (cBin gIx (cVar 10) (cK (.int 1))) (cK (.int 1))) (cTup (cArgs [cCall (fun ds => if ds.length = 2 then cl .f_law_add ds else M.no) (cArgs [cVar 13, cLst (cArgs [cVar 12])]), cVar 14]))))))
  (sSeq (sSet 16 (cLst (cArgs [cCall (one gList) (cArgs [cVar 9]), cCall (one gList) (cArgs [cVar 10])])))
  (sSeq (sTryAE 19 (subO csL subL "ElsewhereError") (sSet 18 (cCall (fun ds => if ds.length = 3 then cl .f_joined ds else M.no) (cArgs [cBin gIx (cVar 16) (cK (.int 0)), cBin gIx (cVar 16) (cK (.int 1)), cVar 12]))) (fun c => if c ∈ csL then (fun c => sRet (cAnd (cK (.bl (subL c "NoFit"))) (cNot (cVar 15)))) c else fun _ _ _ => .no) (sNil))
  (sSeq (sIf (cOrT (cNotT (cTru (cVar 15))) (cTest (cBin gNe (cVar 16) (cLst (cArgs [cVar 9, cVar 10]))))) (sRet (cK (.bl false))) (sNil))
  (sSeq (sSet 17 (cBin gAddM (cVar 9) (cLst (cArgs [cTup (cArgs [cBin gIx (cBin gIx (cVar 10) (cK (.int 0))) (cK (.int 0)), cBin gIx (cBin gIx (cVar 10) (cK (.int 0))) (cK (.int 1)), cBin gIx (cBin gIx (cVar 10) (cK (.int 0))) (cK (.int 2)), cTup (cArgs [])]), cTup (cArgs [cBin gIx (cBin gIx (cVar 10) (cK (.int 1))) (cK (.int 0)), cBin gIx (cBin gIx (cVar 10) (cK (.int 1))) (cK (.int 1)), cK .non, cTup (cArgs [cK (.int 2)])])]))))
  (sSeq (sExpr (cMl gAppend (cVar 17) (cArgs [cTup (cArgs [cK (.str "cut"), cTup (cArgs [cVar 13, cVar 14]), cVar 12, cTup (cArgs [cK (.int 1), cK (.int 3)])])])))
  (sRet (cAnd (cIsi .lst (cVar 18)) (cAnd (cBin gEq (cVar 18) (cVar 17)) (cCall (fun ds => if ds.length = 3 then cl .f_derives ds else M.no) (cArgs [cVar 3, cVar 18, cTup (cArgs [cVar 13, cVar 14])]))))))))))))))))))))))))))))

/-- one turn of the table -/
def body (cl : Fn → List D → M D) : Fn → List D → M D
  | .f_parts => runDef 1 1 (b_parts cl)
  | .f_modal_depth => runDef 1 2 (b_modal_depth cl)
  | .f_is_plain => runDef 1 1 (b_is_plain cl)
  | .f_require_logic => runDef 1 1 (b_require_logic cl)
  | .f_ascending => runDef 1 1 (b_ascending cl)
  | .f_added => runDef 2 2 (b_added cl)
  | .f_require => runDef 1 1 (b_require cl)
  | .f_axiom => runDef 4 4 (b_axiom cl)
  | .f_cut => runDef 4 4 (b_cut cl)
  | .f_premises_of => runDef 4 4 (b_premises_of cl)
  | .f_is_weaker => runDef 2 4 (b_is_weaker cl)
  | .f_is_right => runDef 3 10 (b_is_right cl)
  | .f_first_wrong => runDef 2 3 (b_first_wrong cl)
  | .f_is_derivation => runDef 2 2 (b_is_derivation cl)
  | .f_conclusion_of => runDef 1 1 (b_conclusion_of cl)
  | .f_derives => runDef 3 3 (b_derives cl)
  | .f_renumbered => runDef 2 2 (b_renumbered cl)
  | .f_joined => runDef 3 12 (b_joined cl)
  | .f_law_cell => runDef 2 2 (b_law_cell cl)
  | .f_law_numbers => runDef 3 8 (b_law_numbers cl)
  | .f_law_formula => runDef 3 6 (b_law_formula cl)
  | .f_law_goal => runDef 3 7 (b_law_goal cl)
  | .f_law_logic => runDef 2 3 (b_law_logic cl)
  | .f_law_add => runDef 2 2 (b_law_add cl)
  | .f_law_two => runDef 2 3 (b_law_two cl)
  | .f_law => runDef 1 21 (b_law cl)

def ev : Nat → Fn → List D → M D
  | 0 => fun _ _ => M.no
  | n + 1 => body (ev n)

theorem q_ascending {n : Nat} : ev (n + 1) .f_ascending = runDef 1 1 (b_ascending (ev n)) := rfl
theorem q_added {n : Nat} : ev (n + 1) .f_added = runDef 2 2 (b_added (ev n)) := rfl
theorem q_require {n : Nat} : ev (n + 1) .f_require = runDef 1 1 (b_require (ev n)) := rfl
theorem q_axiom {n : Nat} : ev (n + 1) .f_axiom = runDef 4 4 (b_axiom (ev n)) := rfl
theorem q_cut {n : Nat} : ev (n + 1) .f_cut = runDef 4 4 (b_cut (ev n)) := rfl
theorem q_premises_of {n : Nat} : ev (n + 1) .f_premises_of = runDef 4 4 (b_premises_of (ev n)) := rfl
theorem q_is_weaker {n : Nat} : ev (n + 1) .f_is_weaker = runDef 2 4 (b_is_weaker (ev n)) := rfl
theorem q_is_right {n : Nat} : ev (n + 1) .f_is_right = runDef 3 10 (b_is_right (ev n)) := rfl
theorem q_first_wrong {n : Nat} : ev (n + 1) .f_first_wrong = runDef 2 3 (b_first_wrong (ev n)) := rfl
theorem q_is_derivation {n : Nat} : ev (n + 1) .f_is_derivation = runDef 2 2 (b_is_derivation (ev n)) := rfl
theorem q_conclusion_of {n : Nat} : ev (n + 1) .f_conclusion_of = runDef 1 1 (b_conclusion_of (ev n)) := rfl
theorem q_derives {n : Nat} : ev (n + 1) .f_derives = runDef 3 3 (b_derives (ev n)) := rfl
theorem q_renumbered {n : Nat} : ev (n + 1) .f_renumbered = runDef 2 2 (b_renumbered (ev n)) := rfl
theorem q_joined {n : Nat} : ev (n + 1) .f_joined = runDef 3 12 (b_joined (ev n)) := rfl
theorem q_law_cell {n : Nat} : ev (n + 1) .f_law_cell = runDef 2 2 (b_law_cell (ev n)) := rfl
theorem q_law_goal {n : Nat} : ev (n + 1) .f_law_goal = runDef 3 7 (b_law_goal (ev n)) := rfl
theorem q_law_logic {n : Nat} : ev (n + 1) .f_law_logic = runDef 2 3 (b_law_logic (ev n)) := rfl
theorem q_law_add {n : Nat} : ev (n + 1) .f_law_add = runDef 2 2 (b_law_add (ev n)) := rfl
theorem q_law_two {n : Nat} : ev (n + 1) .f_law_two = runDef 2 3 (b_law_two (ev n)) := rfl
theorem q_law {n : Nat} : ev (n + 1) .f_law = runDef 1 21 (b_law (ev n)) := rfl
end K
namespace K
open PySem PySem.Spec L2 Fx
structure Bt (K : PySem.W.Frag) (mg : Str → Option Value) (w : World) : Prop where
  m_abs : mg "abs" = none
  m_int : mg "int" = none
  m_isinstance : mg "isinstance" = none
  m_len : mg "len" = none
  m_list : mg "list" = none
  m_max : mg "max" = none
  m_range : mg "range" = none
  m_set : mg "set" = none
  m_sorted : mg "sorted" = none
  m_tuple : mg "tuple" = none
  g_INTERMEDIATE : GK ⟨K, mg, w⟩ "INTERMEDIATE" g_INTERMEDIATE
  g_MODAL : GK ⟨K, mg, w⟩ "MODAL" g_MODAL
  t_RULES : TabF ⟨K, mg, w⟩ "RULES" t_RULES ["weaken"]
  xt : ExT K mg csL usL subL

structure Cs (P : Program) (w : World) (K : PySem.W.Frag) (mg : Str → Option Value) (base : Heap) (n : Nat) (cl : Fn → List D → M D) : Prop where
  c_f_parts : CallOk P w K mg base n "parts" (cl .f_parts) 1
  c_f_modal_depth : CallOk P w K mg base n "modal_depth" (cl .f_modal_depth) 1
  c_f_is_plain : CallOk P w K mg base n "is_plain" (cl .f_is_plain) 1
  c_f_require_logic : CallOk P w K mg base n "require_logic" (cl .f_require_logic) 1
  c_f_ascending : CallOk P w K mg base n "ascending" (cl .f_ascending) 1
  c_f_added : CallOkV P w K mg base n "added" (cl .f_added) 1 [2]
  c_f_require : CallOk P w K mg base n "require" (cl .f_require) 1
  c_f_axiom : CallOk P w K mg base n "axiom" (cl .f_axiom) 4
  c_f_cut : CallOk P w K mg base n "cut" (cl .f_cut) 4
  c_f_premises_of : CallOk P w K mg base n "premises_of" (cl .f_premises_of) 4
  c_f_is_weaker : CallOk P w K mg base n "is_weaker" (cl .f_is_weaker) 2
  c_f_is_right : CallOk P w K mg base n "is_right" (cl .f_is_right) 3
  c_f_first_wrong : CallOk P w K mg base n "first_wrong" (cl .f_first_wrong) 2
  c_f_is_derivation : CallOk P w K mg base n "is_derivation" (cl .f_is_derivation) 2
  c_f_conclusion_of : CallOk P w K mg base n "conclusion_of" (cl .f_conclusion_of) 1
  c_f_derives : CallOk P w K mg base n "derives" (cl .f_derives) 3
  c_f_renumbered : CallOk P w K mg base n "renumbered" (cl .f_renumbered) 2
  c_f_joined : CallOk P w K mg base n "joined" (cl .f_joined) 3
  c_f_law_cell : CallOk P w K mg base n "_law_cell" (cl .f_law_cell) 2
  c_f_law_numbers : CallOk P w K mg base n "_law_numbers" (cl .f_law_numbers) 3
  c_f_law_formula : CallOk P w K mg base n "_law_formula" (cl .f_law_formula) 3
  c_f_law_goal : CallOk P w K mg base n "_law_goal" (cl .f_law_goal) 3
  c_f_law_logic : CallOk P w K mg base n "_law_logic" (cl .f_law_logic) 2
  c_f_law_add : CallOk P w K mg base n "_law_add" (cl .f_law_add) 2
  c_f_law_two : CallOk P w K mg base n "_law_two" (cl .f_law_two) 2
  c_f_law : CallOk P w K mg base n "law" (cl .f_law) 1

section
variable {P : Program} {w : World} {K : PySem.W.Frag} {mg : Str → Option Value} {base : Heap} {n : Nat} {cl : Fn → List D → M D}

theorem ok_parts (B : Bt K mg w) (cs : Cs P w K mg base n cl) {a : Addr} {fd : FuncData} (F : Fun K "parts" "parts" st_parts a fd) : FnOk P w K mg base (L2.CX P w) (n + 1) a fd ["a"] (spF ⟨K, mg, w⟩ (runDef 1 1 (b_parts cl)) 1) :=
  def_ok (ps := ["a"]) F sc_parts fun cdv A outer s H E hr => by
    unfold b_parts
    exact (fs_one (f_ret (pf_if (pt_cmpF (opf_in (hu65 hr)) ok2_in (pf_ix (pf_var 0) pf_int (fun _ _ => rfl)) (pf_tup (pfa_cons pf_str (pfa_cons pf_str pfa_nil))) (by rfl)) (pf_tup pfa_nil) (pf_sl (pf_var 0) (pfo_some pf_int) pfo_none))))

theorem ok_modal_depth (B : Bt K mg w) (cs : Cs P w K mg base n cl) {a : Addr} {fd : FuncData} (F : Fun K "modal_depth" "modal_depth" st_modal_depth a fd) : FnOk P w K mg base (L2.CX P w) (n + 1) a fd ["a"] (spF ⟨K, mg, w⟩ (runDef 1 2 (b_modal_depth cl)) 1) :=
  def_ok (ps := ["a"]) F sc_modal_depth fun cdv A outer s H E hr => by
    unfold b_modal_depth
    exact (fs_one (f_ret (pf_op opf_add ok2_add (pf_callTy cf_int (okL_one ok_int1) rfl B.m_int (by decide +kernel) (pfa_cons (pf_cmp (op_eqD hr.units) ok2_eq (pf_ix (pf_var 0) pf_int (fun _ _ => rfl)) pf_str (nomark _)) pfa_nil)) (pf_maxD rfl (hu65 hr) rfl B.m_max (pf_lc (own := [("part", 1)]) (t := (.nm 1)) kStill_ok (by decide) rfl sc_modal_depth.nd (pfi_seq (pf_call cs.c_f_parts hr (pass_of (takes_of rfl rfl rfl rfl)) rfl (pfa_cons (pf_var 0) pfa_nil))) (blkOk_by (N := ["a", "part"]) (sc := defScope st_modal_depth) (by decide +kernel)) (fun _ _ _ _ _ => (pg_n 1 sc_modal_depth.nd)) (fun _ _ _ _ _ => fts_nil) (fun _ _ _ _ _ => (pf_call cs.c_f_modal_depth hr pass_0 rfl (pfa_cons (pf_var 1) pfa_nil)))) pf_int))))

theorem ok_is_plain (B : Bt K mg w) (cs : Cs P w K mg base n cl) {a : Addr} {fd : FuncData} (F : Fun K "is_plain" "is_plain" st_is_plain a fd) : FnOk P w K mg base (L2.CX P w) (n + 1) a fd ["a"] (spF ⟨K, mg, w⟩ (runDef 1 1 (b_is_plain cl)) 1) :=
  def_ok (ps := ["a"]) F sc_is_plain fun cdv A outer s H E hr => by
    unfold b_is_plain
    exact (fs_one (f_ret (pf_cmp (op_eqD hr.units) ok2_eq (pf_call cs.c_f_modal_depth hr (pass_of (takes_of rfl rfl rfl rfl)) rfl (pfa_cons (pf_var 0) pfa_nil)) pf_int (nomark _))))

theorem ok_require_logic (B : Bt K mg w) (cs : Cs P w K mg base n cl) {a : Addr} {fd : FuncData} (F : Fun K "require_logic" "require_logic" st_require_logic a fd) : FnOk P w K mg base (L2.CX P w) (n + 1) a fd ["logic"] (spF ⟨K, mg, w⟩ (runDef 1 1 (b_require_logic cl)) 1) :=
  def_ok (ps := ["logic"]) F sc_require_logic fun cdv A outer s H E hr => by
    unfold b_require_logic
    exact (fs_one (f_if (pt_cmpF (opf_notIn (hu65 hr)) ok2_notIn (pf_var 0) (pf_op opf_add ok2_add (pf_glob rfl B.g_MODAL) (pf_glob rfl B.g_INTERMEDIATE)) (by rfl)) (fs_one (f_raise (B.xt.ad "UnknownLogic" (by decide +kernel)).1 rfl (takes_of rfl rfl rfl rfl) rfl)) fs_nil))

theorem ok_ascending (B : Bt K mg w) (cs : Cs P w K mg base n cl) {a : Addr} {fd : FuncData} (F : Fun K "ascending" "ascending" st_ascending a fd) : FnOk P w K mg base (L2.CX P w) (n + 1) a fd ["formulas"] (spF ⟨K, mg, w⟩ (runDef 1 1 (b_ascending cl)) 1) :=
  def_ok (ps := ["formulas"]) F sc_ascending fun cdv A outer s H E hr => by
    unfold b_ascending
    exact (fs_one (f_ret (pf_callTy cf_tuple (okL_one ok_tuple) rfl B.m_tuple (by decide +kernel) (pfa_cons (pf_ssk rfl (hu70 hr) rfl B.m_sorted rfl B.m_set (pfa_cons (pf_var 0) pfa_nil)) pfa_nil))))

theorem ok_added (B : Bt K mg w) (cs : Cs P w K mg base n cl) {a : Addr} {fd : FuncData} (F : Fun K "added" "added" st_added a fd) : FnOkV P w K mg base (n + 1) a fd ["side", "formulas"] (spF ⟨K, mg, w⟩ (runDef 2 2 (b_added cl)) 2) :=
  def_okV (ps := ["side", "formulas"]) F sc_added fun cdv A outer s H E hr => by
    unfold b_added
    exact (fs_one (f_ret (pf_call cs.c_f_ascending hr (pass_of (takes_of rfl rfl rfl rfl)) rfl (pfa_cons (pf_op opf_add ok2_add (pf_var 0) (pf_var 1)) pfa_nil))))

theorem ok_require (B : Bt K mg w) (cs : Cs P w K mg base n cl) {a : Addr} {fd : FuncData} (F : Fun K "require" "require" st_require a fd) : FnOk P w K mg base (L2.CX P w) (n + 1) a fd ["fits"] (spF ⟨K, mg, w⟩ (runDef 1 1 (b_require cl)) 1) :=
  def_ok (ps := ["fits"]) F sc_require fun cdv A outer s H E hr => by
    unfold b_require
    exact (fs_one (f_if (pt_notF (pt_tru (pf_var 0))) (fs_one (f_raise (B.xt.ad "NoFit" (by decide +kernel)).1 rfl (takes_of rfl rfl rfl rfl) rfl)) fs_nil))

theorem ok_axiom (B : Bt K mg w) (cs : Cs P w K mg base n cl) {a : Addr} {fd : FuncData} (F : Fun K "axiom" "axiom" st_axiom a fd) : FnOk P w K mg base (L2.CX P w) (n + 1) a fd ["logic", "left", "right", "main"] (spF ⟨K, mg, w⟩ (runDef 4 4 (b_axiom cl)) 4) :=
  def_ok (ps := ["logic", "left", "right", "main"]) F sc_axiom fun cdv A outer s H E hr => by
    unfold b_axiom
    exact (fs_cons (f_expr (pf_call cs.c_f_require hr (pass_of (takes_of rfl rfl rfl rfl)) rfl (pfa_cons (pf_and (pf_cmp op_notN ok2_notN (pf_var 3) pf_non (nomark _)) (pf_and (pf_cmp (op_inTD (hu65 hr)) ok2_inT (pf_var 3) (pf_var 1) (by rfl)) (pf_one (pf_cmp (op_inTD (hu65 hr)) ok2_inT (pf_var 3) (pf_var 2) (by rfl))))) pfa_nil)))
    (fs_one (f_ret (pf_lst pfa_nil))))

theorem ok_cut (B : Bt K mg w) (cs : Cs P w K mg base n cl) {a : Addr} {fd : FuncData} (F : Fun K "cut" "cut" st_cut a fd) : FnOk P w K mg base (L2.CX P w) (n + 1) a fd ["logic", "left", "right", "main"] (spF ⟨K, mg, w⟩ (runDef 4 4 (b_cut cl)) 4) :=
  def_ok (ps := ["logic", "left", "right", "main"]) F sc_cut fun cdv A outer s H E hr => by
    unfold b_cut
    exact (fs_cons (f_expr (pf_call cs.c_f_require hr (pass_of (takes_of rfl rfl rfl rfl)) rfl (pfa_cons (pf_and (pf_cmp op_notN ok2_notN (pf_var 3) pf_non (nomark _)) (pf_one (pf_or (pf_cmp (opf_in (hu65 hr)) ok2_in (pf_var 0) (pf_glob rfl B.g_MODAL) (by rfl)) (pf_one (pf_call cs.c_f_is_plain hr (pass_of (takes_of rfl rfl rfl rfl)) rfl (pfa_cons (pf_var 3) pfa_nil)))))) pfa_nil)))
    (fs_one (f_ret (pf_lst (pfa_cons (pf_tup (pfa_cons (pf_var 1) (pfa_cons (pf_callVar 2 cs.c_f_added (by decide) (by decide) (by decide) hr (pass_of (takes_of rfl rfl rfl rfl)) rfl (pfa_cons (pf_var 2) (pfa_cons (pf_var 3) pfa_nil))) pfa_nil))) (pfa_cons (pf_tup (pfa_cons (pf_callVar 2 cs.c_f_added (by decide) (by decide) (by decide) hr (pass_of (takes_of rfl rfl rfl rfl)) rfl (pfa_cons (pf_var 1) (pfa_cons (pf_var 3) pfa_nil))) (pfa_cons (pf_var 2) pfa_nil))) pfa_nil))))))

theorem ok_premises_of (B : Bt K mg w) (cs : Cs P w K mg base n cl) {a : Addr} {fd : FuncData} (F : Fun K "premises_of" "premises_of" st_premises_of a fd) : FnOk P w K mg base (L2.CX P w) (n + 1) a fd ["logic", "rule", "conclusion", "main"] (spF ⟨K, mg, w⟩ (runDef 4 4 (b_premises_of cl)) 4) :=
  def_ok (ps := ["logic", "rule", "conclusion", "main"]) F sc_premises_of fun cdv A outer s H E hr => by
    unfold b_premises_of
    exact (fs_cons (f_expr (pf_call cs.c_f_require_logic hr (pass_of (takes_of rfl rfl rfl rfl)) rfl (pfa_cons (pf_var 0) pfa_nil)))
    (fs_cons (f_expr (pf_call cs.c_f_require hr (pass_of (takes_of rfl rfl rfl rfl)) rfl (pfa_cons (pf_and (pf_tabIn B.t_RULES rfl (pf_var 1)) (pf_one (pf_cmp (opf_in (hu65 hr)) ok2_in (pf_var 0) (pf_ix (pf_tab B.t_RULES.tab rfl (pf_var 1) (fun _ _ => rfl)) pf_int (fun _ _ => rfl)) (by rfl)))) pfa_nil)))
    (fs_one (f_ret (pf_callE (tab_cons cs.c_f_axiom (tab_cons cs.c_f_cut tab_nil)) hr (pass_of (takes_of rfl rfl rfl rfl)) (pf_ix (pf_tab B.t_RULES.tab rfl (pf_var 1) (fun _ _ => rfl)) pf_int (fun _ _ => rfl)) (pfa_cons (pf_var 0) (pfa_cons (pf_ix (pf_var 2) pf_int (fun _ _ => rfl)) (pfa_cons (pf_ix (pf_var 2) pf_int (fun _ _ => rfl)) (pfa_cons (pf_var 3) pfa_nil)))))))))

theorem ok_is_weaker (B : Bt K mg w) (cs : Cs P w K mg base n cl) {a : Addr} {fd : FuncData} (F : Fun K "is_weaker" "is_weaker" st_is_weaker a fd) : FnOk P w K mg base (L2.CX P w) (n + 1) a fd ["conclusion", "premise"] (spF ⟨K, mg, w⟩ (runDef 2 4 (b_is_weaker cl)) 2) :=
  def_ok (ps := ["conclusion", "premise"]) F sc_is_weaker fun cdv A outer s H E hr => by
    unfold b_is_weaker
    exact (fs_cons (f_for (t := (.nm 2)) (passes_of rfl) rfl (pfi_seq (pf_tup (pfa_cons pf_int (pfa_cons pf_int pfa_nil)))) (pg_n 2 sc_is_weaker.nd) (fs_one (f_if (pt_cmpF (op_neD hr.units) ok2_ne (pf_lc (own := [("a", 3)]) (t := (.nm 3)) kStill_ok (by decide) rfl sc_is_weaker.nd (pfi_seq (pf_ix (pf_var 1) (pf_var 2) (fun _ _ => rfl))) (blkOk_by (N := ["conclusion", "premise", "side", "a"]) (sc := defScope st_is_weaker) (by decide +kernel)) (fun _ _ _ _ _ => (pg_n 3 sc_is_weaker.nd)) (fun _ _ _ _ _ => (fts_one (pt_cmpF (op_notInTD (hu65 hr)) ok2_inT (pf_var 3) (pf_ix (pf_var 0) (pf_var 2) (fun _ _ => rfl)) (by rfl)))) (fun _ _ _ _ _ => (pf_var 3))) (pf_lst pfa_nil) (nomark _)) (fs_one (f_ret pf_bl)) fs_nil)))
    (fs_one (f_ret pf_bl)))

theorem ok_is_right (B : Bt K mg w) (cs : Cs P w K mg base n cl) {a : Addr} {fd : FuncData} (F : Fun K "is_right" "is_right" st_is_right a fd) : FnOk P w K mg base (L2.CX P w) (n + 1) a fd ["logic", "steps", "at"] (spF ⟨K, mg, w⟩ (runDef 3 10 (b_is_right cl)) 3) :=
  def_ok (ps := ["logic", "steps", "at"]) F sc_is_right fun cdv A outer s H E hr => by
    unfold b_is_right
    exact (fs_cons (f_asg (t := (.tp [3, 4, 5, 6])) (pg_t rfl (pgn_cons (pg_n 3 sc_is_right.nd) (pgn_cons (pg_n 4 sc_is_right.nd) (pgn_cons (pg_n 5 sc_is_right.nd) (pgn_cons (pg_n 6 sc_is_right.nd) pgn_nil))))) (pf_ix (pf_var 1) (pf_var 2) (fun _ _ => rfl)))
    (fs_cons (f_if (pt_cmpF (op_neD hr.units) ok2_ne (pf_lc (own := [("number", 8)]) (t := (.nm 8)) kStill_ok (by decide) rfl sc_is_right.nd (pfi_seq (pf_var 6)) (blkOk_by (N := ["logic", "steps", "at", "rule", "conclusion", "main", "numbers", "premises", "number", "a"]) (sc := defScope st_is_right) (by decide +kernel)) (fun _ _ _ _ _ => (pg_n 8 sc_is_right.nd)) (fun _ _ _ _ _ => (fts_one (pt_notF (pt_chainF op_le ok2_le op_lt ok2_lt pf_int (pf_var 8) (pf_var 2))))) (fun _ _ _ _ _ => (pf_var 8))) (pf_lst pfa_nil) (nomark _)) (fs_one (f_ret pf_bl)) fs_nil)
    (fs_cons (f_if (PW.pt (pw_andF (pt_cmpF (opf_in (hu65 hr)) ok2_in (pf_var 0) (pf_glob rfl B.g_INTERMEDIATE) (by rfl)) (pw_and1F (pt_cmpF (op_neD hr.units) ok2_ne (pf_lc (own := [("a", 9)]) (t := (.nm 9)) kStill_ok (by decide) rfl sc_is_right.nd (pfi_seq (pf_op opf_add ok2_add (pf_ix (pf_var 4) pf_int (fun _ _ => rfl)) (pf_ix (pf_var 4) pf_int (fun _ _ => rfl)))) (blkOk_by (N := ["logic", "steps", "at", "rule", "conclusion", "main", "numbers", "premises", "number", "a"]) (sc := defScope st_is_right) (by decide +kernel)) (fun _ _ _ _ _ => (pg_n 9 sc_is_right.nd)) (fun _ _ _ _ _ => (fts_one (pt_notF (pt_tru (pf_call cs.c_f_is_plain hr pass_0 rfl (pfa_cons (pf_var 9) pfa_nil)))))) (fun _ _ _ _ _ => (pf_var 9))) (pf_lst pfa_nil) (nomark _))))) (fs_one (f_ret pf_bl)) fs_nil)
    (fs_cons (f_setLc 7 (own := [("number", 8)]) (t := (.nm 8)) kStill_ok (by decide) rfl sc_is_right.nd (sw_true rfl rfl rfl (by decide +kernel)) (pfi_seq (pf_var 6)) (blkOk_by (N := ["logic", "steps", "at", "rule", "conclusion", "main", "numbers", "premises", "number", "a"]) (sc := defScope st_is_right) (by decide +kernel)) (fun _ _ _ _ _ => (pg_n 8 sc_is_right.nd)) (fun _ _ _ _ _ => fts_nil) (fun _ _ _ _ _ => (pf_ix (pf_ix (pf_var 1) (pf_var 8) (fun _ _ => rfl)) pf_int (fun _ _ => rfl))))
    (fs_cons (f_if (pt_cmpF (op_eqD hr.units) ok2_eq (pf_var 3) pf_str (nomark _)) (fs_one (f_ret (pf_and (pf_cmp op_isN ok2_isN (pf_var 5) pf_non (nomark _)) (pf_and (pf_cmp (op_eqD hr.units) ok2_eq (pf_callB cf_len (okL_one ok_len) rfl B.m_len PySem.boot_len (pfa_cons (pf_var 7) pfa_nil)) pf_int (nomark _)) (pf_one (pf_call cs.c_f_is_weaker hr (pass_of (takes_of rfl rfl rfl rfl)) rfl (pfa_cons (pf_var 4) (pfa_cons (pf_ix (pf_var 7) pf_int (fun _ _ => rfl)) pfa_nil)))))))) fs_nil)
    (fs_one (f_tryM (hdf_cons (fs := sRet (cK (.bl false))) B.xt (by decide +kernel) rfl (by decide) (fun a oe cls d pn hz hd => (fs_one (f_ret pf_bl))) hdf_nil) rfl rfl (takes_of rfl rfl rfl rfl) (fun W pn xe tk _ => (fs_one (f_ret (pf_cmp (op_eqD hr.units) ok2_eq (pf_call cs.c_f_premises_of hr (pass_of tk) rfl (pfa_cons (pf_var 0) (pfa_cons (pf_var 3) (pfa_cons (pf_var 4) (pfa_cons (pf_var 5) pfa_nil))))) (pf_var 7) (nomark _))))))))))))

theorem ok_first_wrong (B : Bt K mg w) (cs : Cs P w K mg base n cl) {a : Addr} {fd : FuncData} (F : Fun K "first_wrong" "first_wrong" st_first_wrong a fd) : FnOk P w K mg base (L2.CX P w) (n + 1) a fd ["logic", "steps"] (spF ⟨K, mg, w⟩ (runDef 2 3 (b_first_wrong cl)) 2) :=
  def_ok (ps := ["logic", "steps"]) F sc_first_wrong fun cdv A outer s H E hr => by
    unfold b_first_wrong
    exact (fs_cons (f_expr (pf_call cs.c_f_require_logic hr (pass_of (takes_of rfl rfl rfl rfl)) rfl (pfa_cons (pf_var 0) pfa_nil)))
    (fs_cons (f_for (t := (.nm 2)) (passes_of rfl) rfl (pfi_rng1 rfl B.m_range (pfa_cons (pf_callB cf_len (okL_one ok_len) rfl B.m_len PySem.boot_len (pfa_cons (pf_var 1) pfa_nil)) pfa_nil)) (pg_n 2 sc_first_wrong.nd) (fs_one (f_if (pt_notF (pt_tru (pf_call cs.c_f_is_right hr (pass_of (takes_of rfl rfl rfl rfl)) rfl (pfa_cons (pf_var 0) (pfa_cons (pf_var 1) (pfa_cons (pf_var 2) pfa_nil)))))) (fs_one (f_ret (pf_var 2))) fs_nil)))
    (fs_one (f_ret (pf_neg pf_int)))))

theorem ok_is_derivation (B : Bt K mg w) (cs : Cs P w K mg base n cl) {a : Addr} {fd : FuncData} (F : Fun K "is_derivation" "is_derivation" st_is_derivation a fd) : FnOk P w K mg base (L2.CX P w) (n + 1) a fd ["logic", "steps"] (spF ⟨K, mg, w⟩ (runDef 2 2 (b_is_derivation cl)) 2) :=
  def_ok (ps := ["logic", "steps"]) F sc_is_derivation fun cdv A outer s H E hr => by
    unfold b_is_derivation
    exact (fs_one (f_ret (pf_chain op_lt ok2_lt op_lt ok2_lt (pf_call cs.c_f_first_wrong hr (pass_of (takes_of rfl rfl rfl rfl)) rfl (pfa_cons (pf_var 0) (pfa_cons (pf_var 1) pfa_nil))) pf_int (pf_callB cf_len (okL_one ok_len) rfl B.m_len PySem.boot_len (pfa_cons (pf_var 1) pfa_nil)))))

theorem ok_conclusion_of (B : Bt K mg w) (cs : Cs P w K mg base n cl) {a : Addr} {fd : FuncData} (F : Fun K "conclusion_of" "conclusion_of" st_conclusion_of a fd) : FnOk P w K mg base (L2.CX P w) (n + 1) a fd ["steps"] (spF ⟨K, mg, w⟩ (runDef 1 1 (b_conclusion_of cl)) 1) :=
  def_ok (ps := ["steps"]) F sc_conclusion_of fun cdv A outer s H E hr => by
    unfold b_conclusion_of
    exact (fs_one (f_ret (pf_ix (pf_ix (pf_var 0) (pf_neg pf_int) (fun _ _ => rfl)) pf_int (fun _ _ => rfl))))

theorem ok_derives (B : Bt K mg w) (cs : Cs P w K mg base n cl) {a : Addr} {fd : FuncData} (F : Fun K "derives" "derives" st_derives a fd) : FnOk P w K mg base (L2.CX P w) (n + 1) a fd ["logic", "steps", "wanted"] (spF ⟨K, mg, w⟩ (runDef 3 3 (b_derives cl)) 3) :=
  def_ok (ps := ["logic", "steps", "wanted"]) F sc_derives fun cdv A outer s H E hr => by
    unfold b_derives
    exact (fs_one (f_ret (pf_and (pf_call cs.c_f_is_derivation hr (pass_of (takes_of rfl rfl rfl rfl)) rfl (pfa_cons (pf_var 0) (pfa_cons (pf_var 1) pfa_nil))) (pf_one (pf_cmp (op_eqD hr.units) ok2_eq (pf_call cs.c_f_conclusion_of hr (pass_of (takes_of rfl rfl rfl rfl)) rfl (pfa_cons (pf_var 1) pfa_nil)) (pf_var 2) (nomark _))))))

theorem ok_renumbered (B : Bt K mg w) (cs : Cs P w K mg base n cl) {a : Addr} {fd : FuncData} (F : Fun K "renumbered" "renumbered" st_renumbered a fd) : FnOk P w K mg base (L2.CX P w) (n + 1) a fd ["step", "numbers"] (spF ⟨K, mg, w⟩ (runDef 2 2 (b_renumbered cl)) 2) :=
  def_ok (ps := ["step", "numbers"]) F sc_renumbered fun cdv A outer s H E hr => by
    unfold b_renumbered
    exact (fs_one (f_ret (pf_tup (pfa_cons (pf_ix (pf_var 0) pf_int (fun _ _ => rfl)) (pfa_cons (pf_ix (pf_var 0) pf_int (fun _ _ => rfl)) (pfa_cons (pf_ix (pf_var 0) pf_int (fun _ _ => rfl)) (pfa_cons (pf_callTy cf_tuple (okL_one ok_tuple) rfl B.m_tuple (by decide +kernel) (pfa_cons (pf_var 1) pfa_nil)) pfa_nil)))))))

theorem ok_joined (B : Bt K mg w) (cs : Cs P w K mg base n cl) {a : Addr} {fd : FuncData} (F : Fun K "joined" "joined" st_joined a fd) : FnOk P w K mg base (L2.CX P w) (n + 1) a fd ["first", "second", "main"] (spF ⟨K, mg, w⟩ (runDef 3 12 (b_joined cl)) 3) :=
  def_ok (ps := ["first", "second", "main"]) F sc_joined fun cdv A outer s H E hr => by
    unfold b_joined
    exact (fs_cons (f_asg (t := (.tp [3, 4])) (pg_t rfl (pgn_cons (pg_n 3 sc_joined.nd) (pgn_cons (pg_n 4 sc_joined.nd) pgn_nil))) (pf_call cs.c_f_conclusion_of hr (pass_of (takes_of rfl rfl rfl rfl)) rfl (pfa_cons (pf_var 0) pfa_nil)))
    (fs_cons (f_set 5 sc_joined.nd (pf_tup (pfa_cons (pf_var 3) (pfa_cons (pf_callTy cf_tuple (okL_one ok_tuple) rfl B.m_tuple (by decide +kernel) (pfa_cons (pf_lc (own := [("a", 10)]) (t := (.nm 10)) kStill_ok (by decide) rfl sc_joined.nd (pfi_seq (pf_var 4)) (blkOk_by (N := ["first", "second", "main", "left", "right", "goal", "fits", "by", "moved", "step", "a", "number"]) (sc := defScope st_joined) (by decide +kernel)) (fun _ _ _ _ _ => (pg_n 10 sc_joined.nd)) (fun _ _ _ _ _ => (fts_one (pt_cmpF (op_neD hr.units) ok2_ne (pf_var 10) (pf_var 2) (nomark _)))) (fun _ _ _ _ _ => (pf_var 10))) pfa_nil)) pfa_nil))))
    (fs_cons (f_set 6 sc_joined.nd (pf_and (pf_cmp (op_inTD (hu65 hr)) ok2_inT (pf_var 2) (pf_var 4) (by rfl)) (pf_one (pf_cmp (op_notInTD (hu65 hr)) ok2_inT (pf_var 2) (pf_var 3) (by rfl)))))
    (fs_cons (f_if (PW.pt (pw_orF (pt_notF (pt_tru (pf_var 6))) (pw_or1F (pt_cmpF (op_neD hr.units) ok2_ne (pf_call cs.c_f_conclusion_of hr (pass_of (takes_of rfl rfl rfl rfl)) rfl (pfa_cons (pf_var 1) pfa_nil)) (pf_tup (pfa_cons (pf_callVar 2 cs.c_f_added (by decide) (by decide) (by decide) hr (pass_of (takes_of rfl rfl rfl rfl)) rfl (pfa_cons (pf_var 3) (pfa_cons (pf_var 2) pfa_nil))) (pfa_cons (pf_ix (pf_var 5) pf_int (fun _ _ => rfl)) pfa_nil))) (nomark _))))) (fs_one (f_raise (B.xt.ad "NoFit" (by decide +kernel)).1 rfl (takes_of rfl rfl rfl rfl) rfl)) fs_nil)
    (fs_cons (f_set 7 sc_joined.nd (pf_callB cf_len (okL_one ok_len) rfl B.m_len PySem.boot_len (pfa_cons (pf_var 0) pfa_nil)))
    (fs_cons (f_setLc 8 (own := [("step", 9)]) (t := (.nm 9)) kStill_ok (by decide) rfl sc_joined.nd (sw_true rfl rfl rfl (by decide +kernel)) (pfi_seq (pf_var 1)) (blkOk_by (N := ["first", "second", "main", "left", "right", "goal", "fits", "by", "moved", "step", "a", "number"]) (sc := defScope st_joined) (by decide +kernel)) (fun _ _ _ _ _ => (pg_n 9 sc_joined.nd)) (fun _ _ _ _ _ => fts_nil) (fun _ _ _ _ _ => (pf_call cs.c_f_renumbered hr pass_0 rfl (pfa_cons (pf_var 9) (pfa_cons (pf_lc (own := [("number", 11)]) (t := (.nm 11)) kStill_ok (by decide) rfl sc_joined.nd (pfi_seq (pf_ix (pf_var 9) pf_int (fun _ _ => rfl))) (blkOk_by (by kernel_rfl)) (fun _ _ _ _ _ => (pg_n 11 sc_joined.nd)) (fun _ _ _ _ _ => fts_nil) (fun _ _ _ _ _ => (pf_op opf_add ok2_add (pf_var 11) (pf_var 7)))) pfa_nil)))))
    (fs_one (f_ret (pf_op opf_add ok2_add (pf_op opf_add ok2_add (pf_var 0) (pf_var 8)) (pf_lst (pfa_cons (pf_tup (pfa_cons pf_str (pfa_cons (pf_var 5) (pfa_cons (pf_var 2) (pfa_cons (pf_tup (pfa_cons (pf_op op_sub ok2_sub (pf_var 7) pf_int) (pfa_cons (pf_op op_sub ok2_sub (pf_op opf_add ok2_add (pf_var 7) (pf_callB cf_len (okL_one ok_len) rfl B.m_len PySem.boot_len (pfa_cons (pf_var 1) pfa_nil))) pf_int) pfa_nil))) pfa_nil))))) pfa_nil)))))))))))

theorem ok_law_cell (B : Bt K mg w) (cs : Cs P w K mg base n cl) {a : Addr} {fd : FuncData} (F : Fun K "_law_cell" "_law_cell" st_law_cell a fd) : FnOk P w K mg base (L2.CX P w) (n + 1) a fd ["_law_script", "_law_k"] (spF ⟨K, mg, w⟩ (runDef 2 2 (b_law_cell cl)) 2) :=
  def_ok (ps := ["_law_script", "_law_k"]) F sc_law_cell fun cdv A outer s H E hr => by
    unfold b_law_cell
    exact (fs_cons (f_if (pt_cmpF op_lt ok2_lt (pf_var 1) (pf_callB cf_len (okL_one ok_len) rfl B.m_len PySem.boot_len (pfa_cons (pf_var 0) pfa_nil)) (nomark _)) (fs_one (f_ret (pf_ix (pf_var 0) (pf_var 1) (fun _ _ => rfl)))) fs_nil)
    (fs_one (f_ret pf_int)))

theorem ok_law_numbers (B : Bt K mg w) (cs : Cs P w K mg base n cl) {a : Addr} {fd : FuncData} (F : Fun K "_law_numbers" "_law_numbers" st_law_numbers a fd) : FnOk P w K mg base (L2.CX P w) (n + 1) a fd ["_law_script", "_law_first", "_law_most"] (spF ⟨K, mg, w⟩ (runDef 3 8 (b_law_numbers cl)) 3) :=
  def_ok (ps := ["_law_script", "_law_first", "_law_most"]) F sc_law_numbers fun cdv A outer s H E hr => by
    unfold b_law_numbers
    exact (fs_cons (f_set 3 sc_law_numbers.nd (pf_lstM pfa_nil))
    (fs_cons (f_for (t := (.nm 4)) (passes_of rfl) rfl (pfi_rng2 rfl B.m_range (pfa_cons (pf_var 1) (pfa_cons (pf_callB cf_len (okL_one ok_len) rfl B.m_len PySem.boot_len (pfa_cons (pf_var 0) pfa_nil)) pfa_nil))) (pg_n 4 sc_law_numbers.nd) (fs_cons (f_set 5 sc_law_numbers.nd (pf_callB cf_abs (okL_one ok_abs) rfl B.m_abs (by decide +kernel) (pfa_cons (pf_ix (pf_var 0) (pf_var 4) (fun _ _ => rfl)) pfa_nil)))
    (fs_one (f_if (pt_cmpF op_ge ok2_ge (pf_var 5) pf_int (nomark _)) (fs_one (f_for (t := (.nm 6)) (passes_of rfl) rfl (pfi_rng1 rfl B.m_range (pfa_cons pf_int pfa_nil)) (pg_n 6 sc_law_numbers.nd) (fs_one (f_if (PW.pt (pw_andF (pt_cmpF op_gt ok2_gt (pf_var 5) pf_int (nomark _)) (pw_and1F (pt_cmpF op_lt ok2_lt (pf_callB cf_len (okL_one ok_len) rfl B.m_len PySem.boot_len (pfa_cons (pf_var 3) pfa_nil)) (pf_var 2) (nomark _))))) (fs_cons (f_expr (pf_append (pf_var 3) (pfa_cons (pf_op op_mod ok2_mod (pf_callTy cf_int (okL_one ok_int1) rfl B.m_int (by decide +kernel) (pfa_cons (pf_var 5) pfa_nil)) pf_int) pfa_nil)))
    (fs_one (f_set 5 sc_law_numbers.nd (pf_op op_fdiv ok2_div (pf_var 5) pf_int)))) fs_nil)))) (fs_one (f_if (pt_cmpF op_lt ok2_lt (pf_callB cf_len (okL_one ok_len) rfl B.m_len PySem.boot_len (pfa_cons (pf_var 3) pfa_nil)) (pf_var 2) (nomark _)) (fs_cons (f_set 7 sc_law_numbers.nd (pf_op op_mod ok2_mod (pf_callTy cf_int (okL_one ok_int1) rfl B.m_int (by decide +kernel) (pfa_cons (pf_op opf_add ok2_add (pf_op opf_add ok2_add (pf_op op_mul ok2_mul (pf_var 5) pf_int) (pf_op op_mul ok2_mul (pf_var 4) pf_int)) pf_int) pfa_nil)) pf_int))
    (fs_cons (f_set 7 sc_law_numbers.nd (pf_op op_mod ok2_mod (pf_callTy cf_int (okL_one ok_int1) rfl B.m_int (by decide +kernel) (pfa_cons (pf_op opf_add ok2_add (pf_op op_mul ok2_mul (pf_var 7) pf_int) (pf_op op_fdiv ok2_div (pf_var 7) pf_int)) pfa_nil)) pf_int))
    (fs_one (f_expr (pf_append (pf_var 3) (pfa_cons (pf_op op_mod ok2_mod (pf_callTy cf_int (okL_one ok_int1) rfl B.m_int (by decide +kernel) (pfa_cons (pf_var 7) pfa_nil)) pf_int) pfa_nil)))))) fs_nil))))))
    (fs_one (f_ret (pf_var 3)))))

theorem ok_law_formula (B : Bt K mg w) (cs : Cs P w K mg base n cl) {a : Addr} {fd : FuncData} (F : Fun K "_law_formula" "_law_formula" st_law_formula a fd) : FnOk P w K mg base (L2.CX P w) (n + 1) a fd ["_law_pool", "_law_depth", "_law_plain"] (spF ⟨K, mg, w⟩ (runDef 3 6 (b_law_formula cl)) 3) :=
  def_ok (ps := ["_law_pool", "_law_depth", "_law_plain"]) F sc_law_formula fun cdv A outer s H E hr => by
    unfold b_law_formula
    exact (fs_cons (f_set 3 sc_law_formula.nd pf_int)
    (fs_cons (f_if (pt_cmpF (op_neD hr.units) ok2_ne (pf_var 0) (pf_lst pfa_nil) (nomark _)) (fs_one (f_set 3 sc_law_formula.nd (pf_callTy cf_int (okL_one ok_int1) rfl B.m_int (by decide +kernel) (pfa_cons (pf_popAt (pf_var 0) (pfa_cons pf_int pfa_nil)) pfa_nil)))) fs_nil)
    (fs_cons (f_set 4 sc_law_formula.nd (pf_op op_mod ok2_mod (pf_callTy cf_int (okL_one ok_int1) rfl B.m_int (by decide +kernel) (pfa_cons (pf_var 3) pfa_nil)) pf_int))
    (fs_cons (f_if (PW.pt (pw_orF (pt_cmpF (op_eqD hr.units) ok2_eq (pf_var 1) pf_int (nomark _)) (pw_or1F (pt_cmpF op_lt ok2_lt (pf_var 4) pf_int (nomark _))))) (fs_cons (f_if (pt_cmpF (op_eqD hr.units) ok2_eq (pf_op op_mod ok2_mod (pf_op op_fdiv ok2_div (pf_var 3) pf_int) pf_int) pf_int (nomark _)) (fs_one (f_ret (pf_tup (pfa_cons pf_str pfa_nil)))) fs_nil)
    (fs_one (f_ret (pf_tup (pfa_cons pf_str (pfa_cons (pf_ix (pf_lst (pfa_cons pf_str (pfa_cons pf_str (pfa_cons pf_str (pfa_cons pf_str (pfa_cons pf_str pfa_nil)))))) (pf_op op_mod ok2_mod (pf_op op_fdiv ok2_div (pf_var 3) pf_int) pf_int) (fun _ _ => rfl)) pfa_nil)))))) fs_nil)
    (fs_cons (f_if (PW.pt (pw_orF (pt_cmpF (op_eqD hr.units) ok2_eq (pf_var 4) pf_int (nomark _)) (pw_or1F (PW.pt (pw_andF (pt_cmpF (opf_in (hu65 hr)) ok2_in (pf_var 4) (pf_tup (pfa_cons pf_int (pfa_cons pf_int pfa_nil))) (by rfl)) (pw_and1F (pt_tru (pf_var 2)))))))) (fs_one (f_ret (pf_tup (pfa_cons pf_str (pfa_cons (pf_call cs.c_f_law_formula hr (pass_of (takes_of rfl rfl rfl rfl)) rfl (pfa_cons (pf_var 0) (pfa_cons (pf_op op_sub ok2_sub (pf_var 1) pf_int) (pfa_cons (pf_var 2) pfa_nil)))) (pfa_cons (pf_tup (pfa_cons pf_str pfa_nil)) pfa_nil)))))) fs_nil)
    (fs_cons (f_if (pt_cmpF (opf_in (hu65 hr)) ok2_in (pf_var 4) (pf_tup (pfa_cons pf_int (pfa_cons pf_int pfa_nil))) (by rfl)) (fs_one (f_ret (pf_tup (pfa_cons pf_str (pfa_cons (pf_call cs.c_f_law_formula hr (pass_of (takes_of rfl rfl rfl rfl)) rfl (pfa_cons (pf_var 0) (pfa_cons (pf_op op_sub ok2_sub (pf_var 1) pf_int) (pfa_cons (pf_var 2) pfa_nil)))) pfa_nil))))) fs_nil)
    (fs_cons (f_set 5 sc_law_formula.nd (pf_call cs.c_f_law_formula hr (pass_of (takes_of rfl rfl rfl rfl)) rfl (pfa_cons (pf_var 0) (pfa_cons (pf_op op_sub ok2_sub (pf_var 1) pf_int) (pfa_cons (pf_var 2) pfa_nil)))))
    (fs_one (f_ret (pf_tup (pfa_cons (pf_ix (pf_lst (pfa_cons pf_str (pfa_cons pf_str (pfa_cons pf_str (pfa_cons pf_str (pfa_cons pf_str pfa_nil)))))) (pf_op op_sub ok2_sub (pf_var 4) pf_int) (fun _ _ => rfl)) (pfa_cons (pf_var 5) (pfa_cons (pf_call cs.c_f_law_formula hr (pass_of (takes_of rfl rfl rfl rfl)) rfl (pfa_cons (pf_var 0) (pfa_cons (pf_op op_sub ok2_sub (pf_var 1) pf_int) (pfa_cons (pf_var 2) pfa_nil)))) pfa_nil)))))))))))))

theorem ok_law_goal (B : Bt K mg w) (cs : Cs P w K mg base n cl) {a : Addr} {fd : FuncData} (F : Fun K "_law_goal" "_law_goal" st_law_goal a fd) : FnOk P w K mg base (L2.CX P w) (n + 1) a fd ["_law_pool", "_law_most", "_law_plain"] (spF ⟨K, mg, w⟩ (runDef 3 7 (b_law_goal cl)) 3) :=
  def_ok (ps := ["_law_pool", "_law_most", "_law_plain"]) F sc_law_goal fun cdv A outer s H E hr => by
    unfold b_law_goal
    exact (fs_cons (f_set 3 sc_law_goal.nd (pf_lstM pfa_nil))
    (fs_cons (f_for (t := (.nm 4)) (passes_of rfl) rfl (pfi_rng1 rfl B.m_range (pfa_cons pf_int pfa_nil)) (pg_n 4 sc_law_goal.nd) (fs_cons (f_set 5 sc_law_goal.nd pf_int)
    (fs_cons (f_if (pt_cmpF (op_neD hr.units) ok2_ne (pf_var 0) (pf_lst pfa_nil) (nomark _)) (fs_one (f_set 5 sc_law_goal.nd (pf_op op_mod ok2_mod (pf_callTy cf_int (okL_one ok_int1) rfl B.m_int (by decide +kernel) (pfa_cons (pf_popAt (pf_var 0) (pfa_cons pf_int pfa_nil)) pfa_nil)) (pf_op opf_add ok2_add (pf_var 1) pf_int)))) fs_nil)
    (fs_one (f_expr (pf_append (pf_var 3) (pfa_cons (pf_callTy cf_tuple (okL_one ok_tuple) rfl B.m_tuple (by decide +kernel) (pfa_cons (pf_ssk rfl (hu70 hr) rfl B.m_sorted rfl B.m_set (pfa_cons (pf_lc (own := [("_law_j", 6)]) (t := (.nm 6)) kStill_ok (by decide) rfl sc_law_goal.nd (pfi_rng1 rfl B.m_range (pfa_cons (pf_var 5) pfa_nil)) (blkOk_by (N := ["_law_pool", "_law_most", "_law_plain", "_law_sides", "_law_k", "_law_many", "_law_j"]) (sc := defScope st_law_goal) (by decide +kernel)) (fun _ _ _ _ _ => (pg_n 6 sc_law_goal.nd)) (fun _ _ _ _ _ => fts_nil) (fun _ _ _ _ _ => (pf_call cs.c_f_law_formula hr pass_0 rfl (pfa_cons (pf_var 0) (pfa_cons pf_int (pfa_cons (pf_var 2) pfa_nil)))))) pfa_nil)) pfa_nil)) pfa_nil)))))))
    (fs_one (f_ret (pf_tup (pfa_cons (pf_ix (pf_var 3) pf_int (fun _ _ => rfl)) (pfa_cons (pf_ix (pf_var 3) pf_int (fun _ _ => rfl)) pfa_nil)))))))

theorem ok_law_logic (B : Bt K mg w) (cs : Cs P w K mg base n cl) {a : Addr} {fd : FuncData} (F : Fun K "_law_logic" "_law_logic" st_law_logic a fd) : FnOk P w K mg base (L2.CX P w) (n + 1) a fd ["_law_number", "_law_plain"] (spF ⟨K, mg, w⟩ (runDef 2 3 (b_law_logic cl)) 2) :=
  def_ok (ps := ["_law_number", "_law_plain"]) F sc_law_logic fun cdv A outer s H E hr => by
    unfold b_law_logic
    exact (fs_cons (f_set 2 sc_law_logic.nd (pf_lst (pfa_cons pf_str (pfa_cons pf_str (pfa_cons pf_str (pfa_cons pf_str (pfa_cons pf_str (pfa_cons pf_str (pfa_cons pf_str (pfa_cons pf_str (pfa_cons pf_str (pfa_cons pf_str (pfa_cons pf_str (pfa_cons pf_str (pfa_cons pf_str (pfa_cons pf_str (pfa_cons pf_str pfa_nil)))))))))))))))))
    (fs_cons (f_if (pt_tru (pf_var 1)) (fs_one (f_ret (pf_ix (pf_var 2) (pf_op op_mod ok2_mod (pf_callTy cf_int (okL_one ok_int1) rfl B.m_int (by decide +kernel) (pfa_cons (pf_var 0) pfa_nil)) pf_int) (fun _ _ => rfl)))) fs_nil)
    (fs_one (f_ret (pf_ix (pf_var 2) (pf_op op_mod ok2_mod (pf_callTy cf_int (okL_one ok_int1) rfl B.m_int (by decide +kernel) (pfa_cons (pf_var 0) pfa_nil)) pf_int) (fun _ _ => rfl))))))

theorem ok_law_add (B : Bt K mg w) (cs : Cs P w K mg base n cl) {a : Addr} {fd : FuncData} (F : Fun K "_law_add" "_law_add" st_law_add a fd) : FnOk P w K mg base (L2.CX P w) (n + 1) a fd ["_law_side", "_law_formulas"] (spF ⟨K, mg, w⟩ (runDef 2 2 (b_law_add cl)) 2) :=
  def_ok (ps := ["_law_side", "_law_formulas"]) F sc_law_add fun cdv A outer s H E hr => by
    unfold b_law_add
    exact (fs_one (f_ret (pf_callTy cf_tuple (okL_one ok_tuple) rfl B.m_tuple (by decide +kernel) (pfa_cons (pf_ssk rfl (hu70 hr) rfl B.m_sorted rfl B.m_set (pfa_cons (pf_op opf_add ok2_add (pf_var 0) (pf_callTy cf_tuple (okL_one ok_tuple) rfl B.m_tuple (by decide +kernel) (pfa_cons (pf_var 1) pfa_nil))) pfa_nil)) pfa_nil))))

theorem ok_law_two (B : Bt K mg w) (cs : Cs P w K mg base n cl) {a : Addr} {fd : FuncData} (F : Fun K "_law_two" "_law_two" st_law_two a fd) : FnOk P w K mg base (L2.CX P w) (n + 1) a fd ["_law_goal_here", "_law_shared"] (spF ⟨K, mg, w⟩ (runDef 2 3 (b_law_two cl)) 2) :=
  def_ok (ps := ["_law_goal_here", "_law_shared"]) F sc_law_two fun cdv A outer s H E hr => by
    unfold b_law_two
    exact (fs_cons (f_set 2 sc_law_two.nd (pf_tup (pfa_cons pf_str (pfa_cons (pf_tup (pfa_cons (pf_tup (pfa_cons (pf_var 1) pfa_nil)) (pfa_cons (pf_tup (pfa_cons (pf_var 1) pfa_nil)) pfa_nil))) (pfa_cons (pf_var 1) (pfa_cons (pf_tup pfa_nil) pfa_nil))))))
    (fs_one (f_ret (pf_lst (pfa_cons (pf_var 2) (pfa_cons (pf_tup (pfa_cons pf_str (pfa_cons (pf_tup (pfa_cons (pf_call cs.c_f_law_add hr (pass_of (takes_of rfl rfl rfl rfl)) rfl (pfa_cons (pf_ix (pf_var 0) pf_int (fun _ _ => rfl)) (pfa_cons (pf_lst (pfa_cons (pf_var 1) pfa_nil)) pfa_nil))) (pfa_cons (pf_call cs.c_f_law_add hr (pass_of (takes_of rfl rfl rfl rfl)) rfl (pfa_cons (pf_ix (pf_var 0) pf_int (fun _ _ => rfl)) (pfa_cons (pf_lst (pfa_cons (pf_var 1) pfa_nil)) pfa_nil))) pfa_nil))) (pfa_cons pf_non (pfa_cons (pf_tup (pfa_cons pf_int pfa_nil)) pfa_nil))))) pfa_nil))))))

theorem ok_law (B : Bt K mg w) (cs : Cs P w K mg base n cl) {a : Addr} {fd : FuncData} (F : Fun K "law" "law" st_law a fd) : FnOk P w K mg base (L2.CX P w) (n + 1) a fd ["_law_script"] (spF ⟨K, mg, w⟩ (runDef 1 21 (b_law cl)) 1) :=
  def_ok (ps := ["_law_script"]) F sc_law fun cdv A outer s H E hr => by
    unfold b_law
    exact (fs_cons (f_set 1 sc_law.nd (pf_callB cf_abs (okL_one ok_abs) rfl B.m_abs (by decide +kernel) (pfa_cons (pf_call cs.c_f_law_cell hr (pass_of (takes_of rfl rfl rfl rfl)) rfl (pfa_cons (pf_var 0) (pfa_cons pf_int pfa_nil))) pfa_nil)))
    (fs_cons (f_set 2 sc_law.nd (pf_cmp (op_eqD hr.units) ok2_eq (pf_op op_mod ok2_mod (pf_callTy cf_int (okL_one ok_int1) rfl B.m_int (by decide +kernel) (pfa_cons (pf_var 1) pfa_nil)) pf_int) pf_int (nomark _)))
    (fs_cons (f_set 3 sc_law.nd (pf_call cs.c_f_law_logic hr (pass_of (takes_of rfl rfl rfl rfl)) rfl (pfa_cons (pf_callB cf_abs (okL_one ok_abs) rfl B.m_abs (by decide +kernel) (pfa_cons (pf_call cs.c_f_law_cell hr (pass_of (takes_of rfl rfl rfl rfl)) rfl (pfa_cons (pf_var 0) (pfa_cons pf_int pfa_nil))) pfa_nil)) (pfa_cons (pf_var 2) pfa_nil))))
    (fs_cons (f_set 4 sc_law.nd (pf_call cs.c_f_law_numbers hr (pass_of (takes_of rfl rfl rfl rfl)) rfl (pfa_cons (pf_var 0) (pfa_cons pf_int (pfa_cons pf_int pfa_nil)))))
    (fs_cons (f_set 5 sc_law.nd (pf_call cs.c_f_law_goal hr (pass_of (takes_of rfl rfl rfl rfl)) rfl (pfa_cons (pf_var 4) (pfa_cons pf_int (pfa_cons (pf_var 2) pfa_nil)))))
    (fs_cons (f_set 6 sc_law.nd (pf_call cs.c_f_law_formula hr (pass_of (takes_of rfl rfl rfl rfl)) rfl (pfa_cons (pf_var 4) (pfa_cons pf_int (pfa_cons (pf_var 2) pfa_nil)))))
    (fs_cons (f_set 7 sc_law.nd (pf_call cs.c_f_law_formula hr (pass_of (takes_of rfl rfl rfl rfl)) rfl (pfa_cons (pf_var 4) (pfa_cons pf_int (pfa_cons (pf_var 2) pfa_nil)))))
    (fs_cons (f_set 8 sc_law.nd (pf_tup (pfa_cons (pf_call cs.c_f_law_add hr (pass_of (takes_of rfl rfl rfl rfl)) rfl (pfa_cons (pf_ix (pf_var 5) pf_int (fun _ _ => rfl)) (pfa_cons (pf_lst (pfa_cons (pf_var 6) pfa_nil)) pfa_nil))) (pfa_cons (pf_call cs.c_f_law_add hr (pass_of (takes_of rfl rfl rfl rfl)) rfl (pfa_cons (pf_ix (pf_var 5) pf_int (fun _ _ => rfl)) (pfa_cons (pf_lst (pfa_cons (pf_var 6) pfa_nil)) pfa_nil))) pfa_nil))))
    (fs_cons (f_set 9 sc_law.nd (pf_call cs.c_f_law_two hr (pass_of (takes_of rfl rfl rfl rfl)) rfl (pfa_cons (pf_tup (pfa_cons (pf_ix (pf_var 8) pf_int (fun _ _ => rfl)) (pfa_cons (pf_call cs.c_f_law_add hr (pass_of (takes_of rfl rfl rfl rfl)) rfl (pfa_cons (pf_ix (pf_var 8) pf_int (fun _ _ => rfl)) (pfa_cons (pf_lst (pfa_cons (pf_var 7) pfa_nil)) pfa_nil))) pfa_nil))) (pfa_cons (pf_var 6) pfa_nil))))
    (fs_cons (f_set 10 sc_law.nd (pf_call cs.c_f_law_two hr (pass_of (takes_of rfl rfl rfl rfl)) rfl (pfa_cons (pf_tup (pfa_cons (pf_call cs.c_f_law_add hr (pass_of (takes_of rfl rfl rfl rfl)) rfl (pfa_cons (pf_ix (pf_var 8) pf_int (fun _ _ => rfl)) (pfa_cons (pf_lst (pfa_cons (pf_var 7) pfa_nil)) pfa_nil))) (pfa_cons (pf_ix (pf_var 8) pf_int (fun _ _ => rfl)) pfa_nil))) (pfa_cons (pf_var 6) pfa_nil))))
    (fs_cons (f_set 11 sc_law.nd (pf_op op_mod ok2_mod (pf_op op_fdiv ok2_div (pf_var 1) pf_int) pf_int))
    (fs_cons (f_if (pt_cmpF (op_eqD hr.units) ok2_eq (pf_var 11) pf_int (nomark _)) (fs_one (f_set 10 sc_law.nd (pf_call cs.c_f_law_two hr (pass_of (takes_of rfl rfl rfl rfl)) rfl (pfa_cons (pf_tup (pfa_cons (pf_ix (pf_var 8) pf_int (fun _ _ => rfl)) (pfa_cons (pf_call cs.c_f_law_add hr (pass_of (takes_of rfl rfl rfl rfl)) rfl (pfa_cons (pf_ix (pf_var 8) pf_int (fun _ _ => rfl)) (pfa_cons (pf_lst (pfa_cons (pf_var 7) pfa_nil)) pfa_nil))) pfa_nil))) (pfa_cons (pf_var 6) pfa_nil))))) fs_nil)
    (fs_cons (f_if (pt_cmpF (op_eqD hr.units) ok2_eq (pf_var 11) pf_int (nomark _)) (fs_one (f_set 9 sc_law.nd (pf_call cs.c_f_law_two hr (pass_of (takes_of rfl rfl rfl rfl)) rfl (pfa_cons (pf_var 8) (pfa_cons (pf_var 6) pfa_nil))))) fs_nil)
    (fs_cons (f_if (pt_cmpF (op_eqD hr.units) ok2_eq (pf_var 11) pf_int (nomark _)) (fs_one (f_set 10 sc_law.nd (pf_call cs.c_f_law_two hr (pass_of (takes_of rfl rfl rfl rfl)) rfl (pfa_cons (pf_tup (pfa_cons (pf_call cs.c_f_law_add hr (pass_of (takes_of rfl rfl rfl rfl)) rfl (pfa_cons (pf_ix (pf_var 8) pf_int (fun _ _ => rfl)) (pfa_cons (pf_lst (pfa_cons (pf_var 7) pfa_nil)) pfa_nil))) (pfa_cons (pf_call cs.c_f_law_add hr (pass_of (takes_of rfl rfl rfl rfl)) rfl (pfa_cons (pf_ix (pf_var 8) pf_int (fun _ _ => rfl)) (pfa_cons (pf_lst (pfa_cons (pf_tup (pfa_cons pf_str (pfa_cons (pf_var 7) (pfa_cons (pf_var 7) pfa_nil)))) pfa_nil)) pfa_nil))) pfa_nil))) (pfa_cons (pf_var 6) pfa_nil))))) fs_nil)
    (fs_cons (f_set 12 sc_law.nd (pf_var 7))
    (fs_cons (f_if (pt_cmpF (op_eqD hr.units) ok2_eq (pf_var 11) pf_int (nomark _)) (fs_one (f_set 12 sc_law.nd (pf_tup (pfa_cons pf_str (pfa_cons (pf_var 7) (pfa_cons (pf_var 7) pfa_nil)))))) fs_nil)
    (fs_cons (f_set 13 sc_law.nd (pf_ix (pf_ix (pf_ix (pf_var 9) pf_int (fun _ _ => rfl)) pf_int (fun _ _ => rfl)) pf_int (fun _ _ => rfl)))
    (fs_cons (f_set 14 sc_law.nd (pf_callTy cf_tuple (okL_one ok_tuple) rfl B.m_tuple (by decide +kernel) (pfa_cons (pf_lc (own := [("_law_a", 20)]) (t := (.nm 20)) kStill_ok (by decide) rfl sc_law.nd (pfi_seq (pf_ix (pf_ix (pf_ix (pf_var 9) pf_int (fun _ _ => rfl)) pf_int (fun _ _ => rfl)) pf_int (fun _ _ => rfl))) (blkOk_by (N := ["_law_script", "_law_digit", "_law_plain", "_law_logic_here", "_law_pool", "_law_goal_here", "_law_shared", "_law_m", "_law_base", "_law_first", "_law_second", "_law_way", "_law_asked", "_law_left", "_law_right", "_law_fits", "_law_given", "_law_due", "_law_actual", "e", "_law_a"]) (sc := defScope st_law) (by decide +kernel)) (fun _ _ _ _ _ => (pg_n 20 sc_law.nd)) (fun _ _ _ _ _ => (fts_one (pt_cmpF (op_neD hr.units) ok2_ne (pf_var 20) (pf_var 12) (nomark _)))) (fun _ _ _ _ _ => (pf_var 20))) pfa_nil)))
    (fs_cons (f_set 15 sc_law.nd (pf_and (pf_cmp (op_inTD (hu65 hr)) ok2_inT (pf_var 12) (pf_ix (pf_ix (pf_ix (pf_var 9) pf_int (fun _ _ => rfl)) pf_int (fun _ _ => rfl)) pf_int (fun _ _ => rfl)) (by rfl)) (pf_and (pf_cmp (op_notInTD (hu65 hr)) ok2_inT (pf_var 12) (pf_var 13) (by rfl)) (pf_one (pf_cmp (op_eqD hr.units) ok2_eq (pf_ix (pf_ix (pf_var 10) pf_int (fun _ _ => rfl)) pf_int (fun _ _ => rfl)) (pf_tup (pfa_cons (pf_call cs.c_f_law_add hr (pass_of (takes_of rfl rfl rfl rfl)) rfl (pfa_cons (pf_var 13) (pfa_cons (pf_lst (pfa_cons (pf_var 12) pfa_nil)) pfa_nil))) (pfa_cons (pf_var 14) pfa_nil))) (nomark _))))))
    (fs_cons (f_set 16 sc_law.nd (pf_lst (pfa_cons (pf_callTy cf_list (okL_one ok_list) rfl B.m_list (by decide +kernel) (pfa_cons (pf_var 9) pfa_nil)) (pfa_cons (pf_callTy cf_list (okL_one ok_list) rfl B.m_list (by decide +kernel) (pfa_cons (pf_var 10) pfa_nil)) pfa_nil))))
    (fs_cons (f_tryT 19 (fs := fun c => sRet (cAnd (cK (.bl (subL c "NoFit"))) (cNot (cVar 15)))) B.xt (by decide +kernel) rfl (by decide) fs_nil rfl rfl sc_law.nd rfl rfl (takes_of rfl rfl rfl rfl) (fun W pn xe tk _ => (fs_one (f_set 18 sc_law.nd (pf_call cs.c_f_joined hr (pass_of tk) rfl (pfa_cons (pf_ix (pf_var 16) pf_int (fun _ _ => rfl)) (pfa_cons (pf_ix (pf_var 16) pf_int (fun _ _ => rfl)) (pfa_cons (pf_var 12) pfa_nil))))))) (fun c a oe cls d pn hc hz hd => (fsp_one (f_retp (pfp_and (pfp_isT B.xt hc (by decide +kernel) hz hd rfl B.m_isinstance rfl) (pfp_one (pep_of (pf_not (pf_var 15)))))))))
    (fs_cons (f_if (PW.pt (pw_orF (pt_notF (pt_tru (pf_var 15))) (pw_or1F (pt_cmpF (op_neD hr.units) ok2_ne (pf_var 16) (pf_lst (pfa_cons (pf_var 9) (pfa_cons (pf_var 10) pfa_nil))) (nomark _))))) (fs_one (f_ret pf_bl)) fs_nil)
    (fs_cons (f_set 17 sc_law.nd (pf_op opf_add ok2_addM (pf_var 9) (pf_lst (pfa_cons (pf_tup (pfa_cons (pf_ix (pf_ix (pf_var 10) pf_int (fun _ _ => rfl)) pf_int (fun _ _ => rfl)) (pfa_cons (pf_ix (pf_ix (pf_var 10) pf_int (fun _ _ => rfl)) pf_int (fun _ _ => rfl)) (pfa_cons (pf_ix (pf_ix (pf_var 10) pf_int (fun _ _ => rfl)) pf_int (fun _ _ => rfl)) (pfa_cons (pf_tup pfa_nil) pfa_nil))))) (pfa_cons (pf_tup (pfa_cons (pf_ix (pf_ix (pf_var 10) pf_int (fun _ _ => rfl)) pf_int (fun _ _ => rfl)) (pfa_cons (pf_ix (pf_ix (pf_var 10) pf_int (fun _ _ => rfl)) pf_int (fun _ _ => rfl)) (pfa_cons pf_non (pfa_cons (pf_tup (pfa_cons pf_int pfa_nil)) pfa_nil))))) pfa_nil)))))
    (fs_cons (f_expr (pf_append (pf_var 17) (pfa_cons (pf_tup (pfa_cons pf_str (pfa_cons (pf_tup (pfa_cons (pf_var 13) (pfa_cons (pf_var 14) pfa_nil))) (pfa_cons (pf_var 12) (pfa_cons (pf_tup (pfa_cons pf_int (pfa_cons pf_int pfa_nil))) pfa_nil))))) pfa_nil)))
    (fs_one (f_ret (pf_and (pf_isi .lst rfl B.m_isinstance rfl B.m_list (by decide +kernel) (pf_var 18)) (pf_and (pf_cmp (op_eqD hr.units) ok2_eq (pf_var 18) (pf_var 17) (nomark _)) (pf_one (pf_call cs.c_f_derives hr (pass_of (takes_of rfl rfl rfl rfl)) rfl (pfa_cons (pf_var 3) (pfa_cons (pf_var 18) (pfa_cons (pf_tup (pfa_cons (pf_var 13) (pfa_cons (pf_var 14) pfa_nil))) pfa_nil)))))))))))))))))))))))))))))))))

end

/-- what stands behind the top -/
structure Ad (K : PySem.W.Frag) (mg : Str → Option Value) (w : World) : Prop where
  bt : Bt K mg w
  a_f_parts : ∃ a fd, mg "parts" = some (.ref a) ∧ Fun K "parts" "parts" st_parts a fd ∧ Binds K fd ["a"] []
  a_f_modal_depth : ∃ a fd, mg "modal_depth" = some (.ref a) ∧ Fun K "modal_depth" "modal_depth" st_modal_depth a fd ∧ Binds K fd ["a"] []
  a_f_is_plain : ∃ a fd, mg "is_plain" = some (.ref a) ∧ Fun K "is_plain" "is_plain" st_is_plain a fd ∧ Binds K fd ["a"] []
  a_f_require_logic : ∃ a fd, mg "require_logic" = some (.ref a) ∧ Fun K "require_logic" "require_logic" st_require_logic a fd ∧ Binds K fd ["logic"] []
  a_f_ascending : ∃ a fd, mg "ascending" = some (.ref a) ∧ Fun K "ascending" "ascending" st_ascending a fd ∧ Binds K fd ["formulas"] []
  a_f_added : ∃ a fd, mg "added" = some (.ref a) ∧ Fun K "added" "added" st_added a fd ∧ ∀ j ∈ ([2] : List Nat), Further fd ["side", "formulas"] 1 j
  a_f_require : ∃ a fd, mg "require" = some (.ref a) ∧ Fun K "require" "require" st_require a fd ∧ Binds K fd ["fits"] []
  a_f_axiom : ∃ a fd, mg "axiom" = some (.ref a) ∧ Fun K "axiom" "axiom" st_axiom a fd ∧ Binds K fd ["logic", "left", "right", "main"] []
  a_f_cut : ∃ a fd, mg "cut" = some (.ref a) ∧ Fun K "cut" "cut" st_cut a fd ∧ Binds K fd ["logic", "left", "right", "main"] []
  a_f_premises_of : ∃ a fd, mg "premises_of" = some (.ref a) ∧ Fun K "premises_of" "premises_of" st_premises_of a fd ∧ Binds K fd ["logic", "rule", "conclusion", "main"] []
  a_f_is_weaker : ∃ a fd, mg "is_weaker" = some (.ref a) ∧ Fun K "is_weaker" "is_weaker" st_is_weaker a fd ∧ Binds K fd ["conclusion", "premise"] []
  a_f_is_right : ∃ a fd, mg "is_right" = some (.ref a) ∧ Fun K "is_right" "is_right" st_is_right a fd ∧ Binds K fd ["logic", "steps", "at"] []
  a_f_first_wrong : ∃ a fd, mg "first_wrong" = some (.ref a) ∧ Fun K "first_wrong" "first_wrong" st_first_wrong a fd ∧ Binds K fd ["logic", "steps"] []
  a_f_is_derivation : ∃ a fd, mg "is_derivation" = some (.ref a) ∧ Fun K "is_derivation" "is_derivation" st_is_derivation a fd ∧ Binds K fd ["logic", "steps"] []
  a_f_conclusion_of : ∃ a fd, mg "conclusion_of" = some (.ref a) ∧ Fun K "conclusion_of" "conclusion_of" st_conclusion_of a fd ∧ Binds K fd ["steps"] []
  a_f_derives : ∃ a fd, mg "derives" = some (.ref a) ∧ Fun K "derives" "derives" st_derives a fd ∧ Binds K fd ["logic", "steps", "wanted"] []
  a_f_renumbered : ∃ a fd, mg "renumbered" = some (.ref a) ∧ Fun K "renumbered" "renumbered" st_renumbered a fd ∧ Binds K fd ["step", "numbers"] []
  a_f_joined : ∃ a fd, mg "joined" = some (.ref a) ∧ Fun K "joined" "joined" st_joined a fd ∧ Binds K fd ["first", "second", "main"] []
  a_f_law_cell : ∃ a fd, mg "_law_cell" = some (.ref a) ∧ Fun K "_law_cell" "_law_cell" st_law_cell a fd ∧ Binds K fd ["_law_script", "_law_k"] []
  a_f_law_numbers : ∃ a fd, mg "_law_numbers" = some (.ref a) ∧ Fun K "_law_numbers" "_law_numbers" st_law_numbers a fd ∧ Binds K fd ["_law_script", "_law_first", "_law_most"] []
  a_f_law_formula : ∃ a fd, mg "_law_formula" = some (.ref a) ∧ Fun K "_law_formula" "_law_formula" st_law_formula a fd ∧ Binds K fd ["_law_pool", "_law_depth", "_law_plain"] []
  a_f_law_goal : ∃ a fd, mg "_law_goal" = some (.ref a) ∧ Fun K "_law_goal" "_law_goal" st_law_goal a fd ∧ Binds K fd ["_law_pool", "_law_most", "_law_plain"] []
  a_f_law_logic : ∃ a fd, mg "_law_logic" = some (.ref a) ∧ Fun K "_law_logic" "_law_logic" st_law_logic a fd ∧ Binds K fd ["_law_number", "_law_plain"] []
  a_f_law_add : ∃ a fd, mg "_law_add" = some (.ref a) ∧ Fun K "_law_add" "_law_add" st_law_add a fd ∧ Binds K fd ["_law_side", "_law_formulas"] []
  a_f_law_two : ∃ a fd, mg "_law_two" = some (.ref a) ∧ Fun K "_law_two" "_law_two" st_law_two a fd ∧ Binds K fd ["_law_goal_here", "_law_shared"] []
  a_f_law : ∃ a fd, mg "law" = some (.ref a) ∧ Fun K "law" "law" st_law a fd ∧ Binds K fd ["_law_script"] []

theorem all_ok {P : Program} {w : World} {K : PySem.W.Frag} {mg : Str → Option Value} {base : Heap} (T : Ad K mg w) : ∀ n, Cs P w K mg base n (ev n)
  | 0 => {
      c_f_parts := by
        obtain ⟨a, fd, m, F, b⟩ := T.a_f_parts
        exact ⟨a, fd, _, m, F.kp, b, rfl, no_ok⟩,
      c_f_modal_depth := by
        obtain ⟨a, fd, m, F, b⟩ := T.a_f_modal_depth
        exact ⟨a, fd, _, m, F.kp, b, rfl, no_ok⟩,
      c_f_is_plain := by
        obtain ⟨a, fd, m, F, b⟩ := T.a_f_is_plain
        exact ⟨a, fd, _, m, F.kp, b, rfl, no_ok⟩,
      c_f_require_logic := by
        obtain ⟨a, fd, m, F, b⟩ := T.a_f_require_logic
        exact ⟨a, fd, _, m, F.kp, b, rfl, no_ok⟩,
      c_f_ascending := by
        obtain ⟨a, fd, m, F, b⟩ := T.a_f_ascending
        exact ⟨a, fd, _, m, F.kp, b, rfl, no_ok⟩,
      c_f_added := by
        obtain ⟨a, fd, m, F, b⟩ := T.a_f_added
        exact ⟨a, fd, _, m, F.kp, b, rfl, no_okV⟩,
      c_f_require := by
        obtain ⟨a, fd, m, F, b⟩ := T.a_f_require
        exact ⟨a, fd, _, m, F.kp, b, rfl, no_ok⟩,
      c_f_axiom := by
        obtain ⟨a, fd, m, F, b⟩ := T.a_f_axiom
        exact ⟨a, fd, _, m, F.kp, b, rfl, no_ok⟩,
      c_f_cut := by
        obtain ⟨a, fd, m, F, b⟩ := T.a_f_cut
        exact ⟨a, fd, _, m, F.kp, b, rfl, no_ok⟩,
      c_f_premises_of := by
        obtain ⟨a, fd, m, F, b⟩ := T.a_f_premises_of
        exact ⟨a, fd, _, m, F.kp, b, rfl, no_ok⟩,
      c_f_is_weaker := by
        obtain ⟨a, fd, m, F, b⟩ := T.a_f_is_weaker
        exact ⟨a, fd, _, m, F.kp, b, rfl, no_ok⟩,
      c_f_is_right := by
        obtain ⟨a, fd, m, F, b⟩ := T.a_f_is_right
        exact ⟨a, fd, _, m, F.kp, b, rfl, no_ok⟩,
      c_f_first_wrong := by
        obtain ⟨a, fd, m, F, b⟩ := T.a_f_first_wrong
        exact ⟨a, fd, _, m, F.kp, b, rfl, no_ok⟩,
      c_f_is_derivation := by
        obtain ⟨a, fd, m, F, b⟩ := T.a_f_is_derivation
        exact ⟨a, fd, _, m, F.kp, b, rfl, no_ok⟩,
      c_f_conclusion_of := by
        obtain ⟨a, fd, m, F, b⟩ := T.a_f_conclusion_of
        exact ⟨a, fd, _, m, F.kp, b, rfl, no_ok⟩,
      c_f_derives := by
        obtain ⟨a, fd, m, F, b⟩ := T.a_f_derives
        exact ⟨a, fd, _, m, F.kp, b, rfl, no_ok⟩,
      c_f_renumbered := by
        obtain ⟨a, fd, m, F, b⟩ := T.a_f_renumbered
        exact ⟨a, fd, _, m, F.kp, b, rfl, no_ok⟩,
      c_f_joined := by
        obtain ⟨a, fd, m, F, b⟩ := T.a_f_joined
        exact ⟨a, fd, _, m, F.kp, b, rfl, no_ok⟩,
      c_f_law_cell := by
        obtain ⟨a, fd, m, F, b⟩ := T.a_f_law_cell
        exact ⟨a, fd, _, m, F.kp, b, rfl, no_ok⟩,
      c_f_law_numbers := by
        obtain ⟨a, fd, m, F, b⟩ := T.a_f_law_numbers
        exact ⟨a, fd, _, m, F.kp, b, rfl, no_ok⟩,
      c_f_law_formula := by
        obtain ⟨a, fd, m, F, b⟩ := T.a_f_law_formula
        exact ⟨a, fd, _, m, F.kp, b, rfl, no_ok⟩,
      c_f_law_goal := by
        obtain ⟨a, fd, m, F, b⟩ := T.a_f_law_goal
        exact ⟨a, fd, _, m, F.kp, b, rfl, no_ok⟩,
      c_f_law_logic := by
        obtain ⟨a, fd, m, F, b⟩ := T.a_f_law_logic
        exact ⟨a, fd, _, m, F.kp, b, rfl, no_ok⟩,
      c_f_law_add := by
        obtain ⟨a, fd, m, F, b⟩ := T.a_f_law_add
        exact ⟨a, fd, _, m, F.kp, b, rfl, no_ok⟩,
      c_f_law_two := by
        obtain ⟨a, fd, m, F, b⟩ := T.a_f_law_two
        exact ⟨a, fd, _, m, F.kp, b, rfl, no_ok⟩,
      c_f_law := by
        obtain ⟨a, fd, m, F, b⟩ := T.a_f_law
        exact ⟨a, fd, _, m, F.kp, b, rfl, no_ok⟩ }
  | n + 1 => by
    have ih := all_ok (P := P) (w := w) (base := base) T n
    exact {
      c_f_parts := by
        obtain ⟨a, fd, m, F, b⟩ := T.a_f_parts
        exact ⟨a, fd, _, m, F.kp, b, rfl, (ok_parts T.bt ih F)⟩,
      c_f_modal_depth := by
        obtain ⟨a, fd, m, F, b⟩ := T.a_f_modal_depth
        exact ⟨a, fd, _, m, F.kp, b, rfl, (ok_modal_depth T.bt ih F)⟩,
      c_f_is_plain := by
        obtain ⟨a, fd, m, F, b⟩ := T.a_f_is_plain
        exact ⟨a, fd, _, m, F.kp, b, rfl, (ok_is_plain T.bt ih F)⟩,
      c_f_require_logic := by
        obtain ⟨a, fd, m, F, b⟩ := T.a_f_require_logic
        exact ⟨a, fd, _, m, F.kp, b, rfl, (ok_require_logic T.bt ih F)⟩,
      c_f_ascending := by
        obtain ⟨a, fd, m, F, b⟩ := T.a_f_ascending
        exact ⟨a, fd, _, m, F.kp, b, rfl, (ok_ascending T.bt ih F)⟩,
      c_f_added := by
        obtain ⟨a, fd, m, F, b⟩ := T.a_f_added
        exact ⟨a, fd, _, m, F.kp, b, rfl, (ok_added T.bt ih F)⟩,
      c_f_require := by
        obtain ⟨a, fd, m, F, b⟩ := T.a_f_require
        exact ⟨a, fd, _, m, F.kp, b, rfl, (ok_require T.bt ih F)⟩,
      c_f_axiom := by
        obtain ⟨a, fd, m, F, b⟩ := T.a_f_axiom
        exact ⟨a, fd, _, m, F.kp, b, rfl, (ok_axiom T.bt ih F)⟩,
      c_f_cut := by
        obtain ⟨a, fd, m, F, b⟩ := T.a_f_cut
        exact ⟨a, fd, _, m, F.kp, b, rfl, (ok_cut T.bt ih F)⟩,
      c_f_premises_of := by
        obtain ⟨a, fd, m, F, b⟩ := T.a_f_premises_of
        exact ⟨a, fd, _, m, F.kp, b, rfl, (ok_premises_of T.bt ih F)⟩,
      c_f_is_weaker := by
        obtain ⟨a, fd, m, F, b⟩ := T.a_f_is_weaker
        exact ⟨a, fd, _, m, F.kp, b, rfl, (ok_is_weaker T.bt ih F)⟩,
      c_f_is_right := by
        obtain ⟨a, fd, m, F, b⟩ := T.a_f_is_right
        exact ⟨a, fd, _, m, F.kp, b, rfl, (ok_is_right T.bt ih F)⟩,
      c_f_first_wrong := by
        obtain ⟨a, fd, m, F, b⟩ := T.a_f_first_wrong
        exact ⟨a, fd, _, m, F.kp, b, rfl, (ok_first_wrong T.bt ih F)⟩,
      c_f_is_derivation := by
        obtain ⟨a, fd, m, F, b⟩ := T.a_f_is_derivation
        exact ⟨a, fd, _, m, F.kp, b, rfl, (ok_is_derivation T.bt ih F)⟩,
      c_f_conclusion_of := by
        obtain ⟨a, fd, m, F, b⟩ := T.a_f_conclusion_of
        exact ⟨a, fd, _, m, F.kp, b, rfl, (ok_conclusion_of T.bt ih F)⟩,
      c_f_derives := by
        obtain ⟨a, fd, m, F, b⟩ := T.a_f_derives
        exact ⟨a, fd, _, m, F.kp, b, rfl, (ok_derives T.bt ih F)⟩,
      c_f_renumbered := by
        obtain ⟨a, fd, m, F, b⟩ := T.a_f_renumbered
        exact ⟨a, fd, _, m, F.kp, b, rfl, (ok_renumbered T.bt ih F)⟩,
      c_f_joined := by
        obtain ⟨a, fd, m, F, b⟩ := T.a_f_joined
        exact ⟨a, fd, _, m, F.kp, b, rfl, (ok_joined T.bt ih F)⟩,
      c_f_law_cell := by
        obtain ⟨a, fd, m, F, b⟩ := T.a_f_law_cell
        exact ⟨a, fd, _, m, F.kp, b, rfl, (ok_law_cell T.bt ih F)⟩,
      c_f_law_numbers := by
        obtain ⟨a, fd, m, F, b⟩ := T.a_f_law_numbers
        exact ⟨a, fd, _, m, F.kp, b, rfl, (ok_law_numbers T.bt ih F)⟩,
      c_f_law_formula := by
        obtain ⟨a, fd, m, F, b⟩ := T.a_f_law_formula
        exact ⟨a, fd, _, m, F.kp, b, rfl, (ok_law_formula T.bt ih F)⟩,
      c_f_law_goal := by
        obtain ⟨a, fd, m, F, b⟩ := T.a_f_law_goal
        exact ⟨a, fd, _, m, F.kp, b, rfl, (ok_law_goal T.bt ih F)⟩,
      c_f_law_logic := by
        obtain ⟨a, fd, m, F, b⟩ := T.a_f_law_logic
        exact ⟨a, fd, _, m, F.kp, b, rfl, (ok_law_logic T.bt ih F)⟩,
      c_f_law_add := by
        obtain ⟨a, fd, m, F, b⟩ := T.a_f_law_add
        exact ⟨a, fd, _, m, F.kp, b, rfl, (ok_law_add T.bt ih F)⟩,
      c_f_law_two := by
        obtain ⟨a, fd, m, F, b⟩ := T.a_f_law_two
        exact ⟨a, fd, _, m, F.kp, b, rfl, (ok_law_two T.bt ih F)⟩,
      c_f_law := by
        obtain ⟨a, fd, m, F, b⟩ := T.a_f_law
        exact ⟨a, fd, _, m, F.kp, b, rfl, (ok_law T.bt ih F)⟩ }
set_option maxHeartbeats 0 in
theorem ad_mk {w : World} {K : PySem.W.Frag} {h : Heap} {mg : Str → Option Value} {fa : Addr} (X : K.In h) (G : h.Ns mainGlobals mg) (hfa : mg "law" = some (.ref fa))
    {f0 : Addr} {od0 an0 : Option Addr} {sl0 : Array (Option Value)} {oc0 kV0 dc0 pm0 cd0 ct0 : Value}
    {f1 : Addr} {od1 an1 : Option Addr} {sl1 : Array (Option Value)} {oc1 kV1 dc1 pm1 cd1 ct1 : Value}
    {f2 : Addr} {od2 an2 : Option Addr} {sl2 : Array (Option Value)} {oc2 kV2 dc2 pm2 cd2 ct2 : Value}
    {f3 : Addr} {od3 an3 : Option Addr} {sl3 : Array (Option Value)} {oc3 kV3 dc3 pm3 cd3 ct3 : Value}
    {f4 : Addr} {od4 an4 : Option Addr} {sl4 : Array (Option Value)} {oc4 kV4 dc4 pm4 cd4 ct4 : Value}
    {f5 : Addr} {od5 an5 : Option Addr} {sl5 : Array (Option Value)} {oc5 kV5 dc5 pm5 cd5 ct5 : Value}
    {f6 : Addr} {od6 an6 : Option Addr} {sl6 : Array (Option Value)} {oc6 kV6 dc6 pm6 cd6 ct6 : Value}
    {f7 : Addr} {od7 an7 : Option Addr} {sl7 : Array (Option Value)} {oc7 kV7 dc7 pm7 cd7 ct7 : Value}
    {f8 : Addr} {od8 an8 : Option Addr} {sl8 : Array (Option Value)} {oc8 kV8 dc8 pm8 cd8 ct8 : Value}
    {f9 : Addr} {od9 an9 : Option Addr} {sl9 : Array (Option Value)} {oc9 kV9 dc9 pm9 cd9 ct9 : Value}
    {f10 : Addr} {od10 an10 : Option Addr} {sl10 : Array (Option Value)} {oc10 kV10 dc10 pm10 cd10 ct10 : Value}
    {f11 : Addr} {od11 an11 : Option Addr} {sl11 : Array (Option Value)} {oc11 kV11 dc11 pm11 cd11 ct11 : Value}
    {f12 : Addr} {od12 an12 : Option Addr} {sl12 : Array (Option Value)} {oc12 kV12 dc12 pm12 cd12 ct12 : Value}
    {f13 : Addr} {od13 an13 : Option Addr} {sl13 : Array (Option Value)} {oc13 kV13 dc13 pm13 cd13 ct13 : Value}
    {f14 : Addr} {od14 an14 : Option Addr} {sl14 : Array (Option Value)} {oc14 kV14 dc14 pm14 cd14 ct14 : Value}
    {f15 : Addr} {od15 an15 : Option Addr} {sl15 : Array (Option Value)} {oc15 kV15 dc15 pm15 cd15 ct15 : Value}
    {f16 : Addr} {od16 an16 : Option Addr} {sl16 : Array (Option Value)} {oc16 kV16 dc16 pm16 cd16 ct16 : Value}
    {f17 : Addr} {od17 an17 : Option Addr} {sl17 : Array (Option Value)} {oc17 kV17 dc17 pm17 cd17 ct17 : Value}
    {f18 : Addr} {od18 an18 : Option Addr} {sl18 : Array (Option Value)} {oc18 kV18 dc18 pm18 cd18 ct18 : Value}
    {f19 : Addr} {od19 an19 : Option Addr} {sl19 : Array (Option Value)} {oc19 kV19 dc19 pm19 cd19 ct19 : Value}
    {f20 : Addr} {od20 an20 : Option Addr} {sl20 : Array (Option Value)} {oc20 kV20 dc20 pm20 cd20 ct20 : Value}
    {f21 : Addr} {od21 an21 : Option Addr} {sl21 : Array (Option Value)} {oc21 kV21 dc21 pm21 cd21 ct21 : Value}
    {f22 : Addr} {od22 an22 : Option Addr} {sl22 : Array (Option Value)} {oc22 kV22 dc22 pm22 cd22 ct22 : Value}
    {f23 : Addr} {od23 an23 : Option Addr} {sl23 : Array (Option Value)} {oc23 kV23 dc23 pm23 cd23 ct23 : Value}
    {f24 : Addr} {od24 an24 : Option Addr} {sl24 : Array (Option Value)} {oc24 kV24 dc24 pm24 cd24 ct24 : Value}
    {f25 : Addr} {od25 an25 : Option Addr} {sl25 : Array (Option Value)} {oc25 kV25 dc25 pm25 cd25 ct25 : Value}
    {t0 : Addr} {td0 : Option Addr} {ts0 : Array (Option Value)} {te0 : Nat} {tk0_0 : Tok} {tk0_1 : Tok} {tk0_2 : Tok} {tk0_3 : Tok} {tk0_4 : Tok} {tk0_5 : Tok}
    {t1 : Addr} {td1 : Option Addr} {ts1 : Array (Option Value)} {te1 : Nat} {tk1_0 : Tok} {tk1_1 : Tok} {tk1_2 : Tok} {tk1_3 : Tok} {tk1_4 : Tok} {tk1_5 : Tok} {tk1_6 : Tok} {tk1_7 : Tok} {tk1_8 : Tok}
    {d0 : Addr} {es0 : Array DictEntry} {dn0 : Nat} {u0_0 : Addr} {u0_1 : Addr}
    {vd0_0 : Option Addr} {vs0_0 : Array (Option Value)} {ve0_0 : Nat}
    {w0_1 : Addr}
    {vd0_2 : Option Addr} {vs0_2 : Array (Option Value)} {ve0_2 : Nat}
    {tv0_2_0 : Tok}
    {tv0_2_1 : Tok}
    {tv0_2_2 : Tok}
    {tv0_2_3 : Tok}
    {tv0_2_4 : Tok}
    {tv0_2_5 : Tok}
    {tv0_2_6 : Tok}
    {tv0_2_7 : Tok}
    {tv0_2_8 : Tok}
    {tv0_2_9 : Tok}
    {tv0_2_10 : Tok}
    {tv0_2_11 : Tok}
    {tv0_2_12 : Tok}
    {tv0_2_13 : Tok}
    {tv0_2_14 : Tok}
    {vd0_3 : Option Addr} {vs0_3 : Array (Option Value)} {ve0_3 : Nat}
    {w0_4 : Addr}
    {vd0_5 : Option Addr} {vs0_5 : Array (Option Value)} {ve0_5 : Nat}
    {tv0_5_0 : Tok}
    {tv0_5_1 : Tok}
    {tv0_5_2 : Tok}
    {tv0_5_3 : Tok}
    {tv0_5_4 : Tok}
    {tv0_5_5 : Tok}
    {tv0_5_6 : Tok}
    {tv0_5_7 : Tok}
    {tv0_5_8 : Tok}
    {tv0_5_9 : Tok}
    {tv0_5_10 : Tok}
    {tv0_5_11 : Tok}
    {tv0_5_12 : Tok}
    {tv0_5_13 : Tok}
    {tv0_5_14 : Tok}
    {x0 : Addr}
    {x1 : Addr}
    {x2 : Addr}
    (a0 : PySem.W.nsIn K mainGlobals "parts" = some (some (.ref f0)))
    (l0 : K.lookup f0 = some ⟨oc0, od0, .func (PySem.W.fnOf "parts" "parts" (defArgs st_parts) (defBody st_parts) (defScope st_parts) .none kV0 dc0 pm0 an0 cd0 ct0), sl0⟩)
    (c0 : PySem.W.codeIn K cd0 "parts" = true)
    (k0 : PySem.W.keepIn K (.ref f0) = true)
    (a1 : PySem.W.nsIn K mainGlobals "modal_depth" = some (some (.ref f1)))
    (l1 : K.lookup f1 = some ⟨oc1, od1, .func (PySem.W.fnOf "modal_depth" "modal_depth" (defArgs st_modal_depth) (defBody st_modal_depth) (defScope st_modal_depth) .none kV1 dc1 pm1 an1 cd1 ct1), sl1⟩)
    (c1 : PySem.W.codeIn K cd1 "modal_depth" = true)
    (k1 : PySem.W.keepIn K (.ref f1) = true)
    (a2 : PySem.W.nsIn K mainGlobals "is_plain" = some (some (.ref f2)))
    (l2 : K.lookup f2 = some ⟨oc2, od2, .func (PySem.W.fnOf "is_plain" "is_plain" (defArgs st_is_plain) (defBody st_is_plain) (defScope st_is_plain) .none kV2 dc2 pm2 an2 cd2 ct2), sl2⟩)
    (c2 : PySem.W.codeIn K cd2 "is_plain" = true)
    (k2 : PySem.W.keepIn K (.ref f2) = true)
    (a3 : PySem.W.nsIn K mainGlobals "require_logic" = some (some (.ref f3)))
    (l3 : K.lookup f3 = some ⟨oc3, od3, .func (PySem.W.fnOf "require_logic" "require_logic" (defArgs st_require_logic) (defBody st_require_logic) (defScope st_require_logic) .none kV3 dc3 pm3 an3 cd3 ct3), sl3⟩)
    (c3 : PySem.W.codeIn K cd3 "require_logic" = true)
    (k3 : PySem.W.keepIn K (.ref f3) = true)
    (a4 : PySem.W.nsIn K mainGlobals "ascending" = some (some (.ref f4)))
    (l4 : K.lookup f4 = some ⟨oc4, od4, .func (PySem.W.fnOf "ascending" "ascending" (defArgs st_ascending) (defBody st_ascending) (defScope st_ascending) .none kV4 dc4 pm4 an4 cd4 ct4), sl4⟩)
    (c4 : PySem.W.codeIn K cd4 "ascending" = true)
    (k4 : PySem.W.keepIn K (.ref f4) = true)
    (a5 : PySem.W.nsIn K mainGlobals "added" = some (some (.ref f5)))
    (l5 : K.lookup f5 = some ⟨oc5, od5, .func (PySem.W.fnOf "added" "added" (defArgs st_added) (defBody st_added) (defScope st_added) .none kV5 dc5 pm5 an5 cd5 ct5), sl5⟩)
    (c5 : PySem.W.codeIn K cd5 "added" = true)
    (k5 : PySem.W.keepIn K (.ref f5) = true)
    (a6 : PySem.W.nsIn K mainGlobals "require" = some (some (.ref f6)))
    (l6 : K.lookup f6 = some ⟨oc6, od6, .func (PySem.W.fnOf "require" "require" (defArgs st_require) (defBody st_require) (defScope st_require) .none kV6 dc6 pm6 an6 cd6 ct6), sl6⟩)
    (c6 : PySem.W.codeIn K cd6 "require" = true)
    (k6 : PySem.W.keepIn K (.ref f6) = true)
    (a7 : PySem.W.nsIn K mainGlobals "axiom" = some (some (.ref f7)))
    (l7 : K.lookup f7 = some ⟨oc7, od7, .func (PySem.W.fnOf "axiom" "axiom" (defArgs st_axiom) (defBody st_axiom) (defScope st_axiom) .none kV7 dc7 pm7 an7 cd7 ct7), sl7⟩)
    (c7 : PySem.W.codeIn K cd7 "axiom" = true)
    (k7 : PySem.W.keepIn K (.ref f7) = true)
    (a8 : PySem.W.nsIn K mainGlobals "cut" = some (some (.ref f8)))
    (l8 : K.lookup f8 = some ⟨oc8, od8, .func (PySem.W.fnOf "cut" "cut" (defArgs st_cut) (defBody st_cut) (defScope st_cut) .none kV8 dc8 pm8 an8 cd8 ct8), sl8⟩)
    (c8 : PySem.W.codeIn K cd8 "cut" = true)
    (k8 : PySem.W.keepIn K (.ref f8) = true)
    (a9 : PySem.W.nsIn K mainGlobals "premises_of" = some (some (.ref f9)))
    (l9 : K.lookup f9 = some ⟨oc9, od9, .func (PySem.W.fnOf "premises_of" "premises_of" (defArgs st_premises_of) (defBody st_premises_of) (defScope st_premises_of) .none kV9 dc9 pm9 an9 cd9 ct9), sl9⟩)
    (c9 : PySem.W.codeIn K cd9 "premises_of" = true)
    (k9 : PySem.W.keepIn K (.ref f9) = true)
    (a10 : PySem.W.nsIn K mainGlobals "is_weaker" = some (some (.ref f10)))
    (l10 : K.lookup f10 = some ⟨oc10, od10, .func (PySem.W.fnOf "is_weaker" "is_weaker" (defArgs st_is_weaker) (defBody st_is_weaker) (defScope st_is_weaker) .none kV10 dc10 pm10 an10 cd10 ct10), sl10⟩)
    (c10 : PySem.W.codeIn K cd10 "is_weaker" = true)
    (k10 : PySem.W.keepIn K (.ref f10) = true)
    (a11 : PySem.W.nsIn K mainGlobals "is_right" = some (some (.ref f11)))
    (l11 : K.lookup f11 = some ⟨oc11, od11, .func (PySem.W.fnOf "is_right" "is_right" (defArgs st_is_right) (defBody st_is_right) (defScope st_is_right) .none kV11 dc11 pm11 an11 cd11 ct11), sl11⟩)
    (c11 : PySem.W.codeIn K cd11 "is_right" = true)
    (k11 : PySem.W.keepIn K (.ref f11) = true)
    (a12 : PySem.W.nsIn K mainGlobals "first_wrong" = some (some (.ref f12)))
    (l12 : K.lookup f12 = some ⟨oc12, od12, .func (PySem.W.fnOf "first_wrong" "first_wrong" (defArgs st_first_wrong) (defBody st_first_wrong) (defScope st_first_wrong) .none kV12 dc12 pm12 an12 cd12 ct12), sl12⟩)
    (c12 : PySem.W.codeIn K cd12 "first_wrong" = true)
    (k12 : PySem.W.keepIn K (.ref f12) = true)
    (a13 : PySem.W.nsIn K mainGlobals "is_derivation" = some (some (.ref f13)))
    (l13 : K.lookup f13 = some ⟨oc13, od13, .func (PySem.W.fnOf "is_derivation" "is_derivation" (defArgs st_is_derivation) (defBody st_is_derivation) (defScope st_is_derivation) .none kV13 dc13 pm13 an13 cd13 ct13), sl13⟩)
    (c13 : PySem.W.codeIn K cd13 "is_derivation" = true)
    (k13 : PySem.W.keepIn K (.ref f13) = true)
    (a14 : PySem.W.nsIn K mainGlobals "conclusion_of" = some (some (.ref f14)))
    (l14 : K.lookup f14 = some ⟨oc14, od14, .func (PySem.W.fnOf "conclusion_of" "conclusion_of" (defArgs st_conclusion_of) (defBody st_conclusion_of) (defScope st_conclusion_of) .none kV14 dc14 pm14 an14 cd14 ct14), sl14⟩)
    (c14 : PySem.W.codeIn K cd14 "conclusion_of" = true)
    (k14 : PySem.W.keepIn K (.ref f14) = true)
    (a15 : PySem.W.nsIn K mainGlobals "derives" = some (some (.ref f15)))
    (l15 : K.lookup f15 = some ⟨oc15, od15, .func (PySem.W.fnOf "derives" "derives" (defArgs st_derives) (defBody st_derives) (defScope st_derives) .none kV15 dc15 pm15 an15 cd15 ct15), sl15⟩)
    (c15 : PySem.W.codeIn K cd15 "derives" = true)
    (k15 : PySem.W.keepIn K (.ref f15) = true)
    (a16 : PySem.W.nsIn K mainGlobals "renumbered" = some (some (.ref f16)))
    (l16 : K.lookup f16 = some ⟨oc16, od16, .func (PySem.W.fnOf "renumbered" "renumbered" (defArgs st_renumbered) (defBody st_renumbered) (defScope st_renumbered) .none kV16 dc16 pm16 an16 cd16 ct16), sl16⟩)
    (c16 : PySem.W.codeIn K cd16 "renumbered" = true)
    (k16 : PySem.W.keepIn K (.ref f16) = true)
    (a17 : PySem.W.nsIn K mainGlobals "joined" = some (some (.ref f17)))
    (l17 : K.lookup f17 = some ⟨oc17, od17, .func (PySem.W.fnOf "joined" "joined" (defArgs st_joined) (defBody st_joined) (defScope st_joined) .none kV17 dc17 pm17 an17 cd17 ct17), sl17⟩)
    (c17 : PySem.W.codeIn K cd17 "joined" = true)
    (k17 : PySem.W.keepIn K (.ref f17) = true)
    (a18 : PySem.W.nsIn K mainGlobals "_law_cell" = some (some (.ref f18)))
    (l18 : K.lookup f18 = some ⟨oc18, od18, .func (PySem.W.fnOf "_law_cell" "_law_cell" (defArgs st_law_cell) (defBody st_law_cell) (defScope st_law_cell) .none kV18 dc18 pm18 an18 cd18 ct18), sl18⟩)
    (c18 : PySem.W.codeIn K cd18 "_law_cell" = true)
    (k18 : PySem.W.keepIn K (.ref f18) = true)
    (a19 : PySem.W.nsIn K mainGlobals "_law_numbers" = some (some (.ref f19)))
    (l19 : K.lookup f19 = some ⟨oc19, od19, .func (PySem.W.fnOf "_law_numbers" "_law_numbers" (defArgs st_law_numbers) (defBody st_law_numbers) (defScope st_law_numbers) .none kV19 dc19 pm19 an19 cd19 ct19), sl19⟩)
    (c19 : PySem.W.codeIn K cd19 "_law_numbers" = true)
    (k19 : PySem.W.keepIn K (.ref f19) = true)
    (a20 : PySem.W.nsIn K mainGlobals "_law_formula" = some (some (.ref f20)))
    (l20 : K.lookup f20 = some ⟨oc20, od20, .func (PySem.W.fnOf "_law_formula" "_law_formula" (defArgs st_law_formula) (defBody st_law_formula) (defScope st_law_formula) .none kV20 dc20 pm20 an20 cd20 ct20), sl20⟩)
    (c20 : PySem.W.codeIn K cd20 "_law_formula" = true)
    (k20 : PySem.W.keepIn K (.ref f20) = true)
    (a21 : PySem.W.nsIn K mainGlobals "_law_goal" = some (some (.ref f21)))
    (l21 : K.lookup f21 = some ⟨oc21, od21, .func (PySem.W.fnOf "_law_goal" "_law_goal" (defArgs st_law_goal) (defBody st_law_goal) (defScope st_law_goal) .none kV21 dc21 pm21 an21 cd21 ct21), sl21⟩)
    (c21 : PySem.W.codeIn K cd21 "_law_goal" = true)
    (k21 : PySem.W.keepIn K (.ref f21) = true)
    (a22 : PySem.W.nsIn K mainGlobals "_law_logic" = some (some (.ref f22)))
    (l22 : K.lookup f22 = some ⟨oc22, od22, .func (PySem.W.fnOf "_law_logic" "_law_logic" (defArgs st_law_logic) (defBody st_law_logic) (defScope st_law_logic) .none kV22 dc22 pm22 an22 cd22 ct22), sl22⟩)
    (c22 : PySem.W.codeIn K cd22 "_law_logic" = true)
    (k22 : PySem.W.keepIn K (.ref f22) = true)
    (a23 : PySem.W.nsIn K mainGlobals "_law_add" = some (some (.ref f23)))
    (l23 : K.lookup f23 = some ⟨oc23, od23, .func (PySem.W.fnOf "_law_add" "_law_add" (defArgs st_law_add) (defBody st_law_add) (defScope st_law_add) .none kV23 dc23 pm23 an23 cd23 ct23), sl23⟩)
    (c23 : PySem.W.codeIn K cd23 "_law_add" = true)
    (k23 : PySem.W.keepIn K (.ref f23) = true)
    (a24 : PySem.W.nsIn K mainGlobals "_law_two" = some (some (.ref f24)))
    (l24 : K.lookup f24 = some ⟨oc24, od24, .func (PySem.W.fnOf "_law_two" "_law_two" (defArgs st_law_two) (defBody st_law_two) (defScope st_law_two) .none kV24 dc24 pm24 an24 cd24 ct24), sl24⟩)
    (c24 : PySem.W.codeIn K cd24 "_law_two" = true)
    (k24 : PySem.W.keepIn K (.ref f24) = true)
    (a25 : PySem.W.nsIn K mainGlobals "law" = some (some (.ref f25)))
    (l25 : K.lookup f25 = some ⟨oc25, od25, .func (PySem.W.fnOf "law" "law" (defArgs st_law) (defBody st_law) (defScope st_law) .none kV25 dc25 pm25 an25 cd25 ct25), sl25⟩)
    (c25 : PySem.W.codeIn K cd25 "law" = true)
    (k25 : PySem.W.keepIn K (.ref f25) = true)
    (z0 : PySem.W.nsIn K mainGlobals "abs" = some none)
    (z1 : PySem.W.nsIn K mainGlobals "int" = some none)
    (z2 : PySem.W.nsIn K mainGlobals "isinstance" = some none)
    (z3 : PySem.W.nsIn K mainGlobals "len" = some none)
    (z4 : PySem.W.nsIn K mainGlobals "list" = some none)
    (z5 : PySem.W.nsIn K mainGlobals "max" = some none)
    (z6 : PySem.W.nsIn K mainGlobals "range" = some none)
    (z7 : PySem.W.nsIn K mainGlobals "set" = some none)
    (z8 : PySem.W.nsIn K mainGlobals "sorted" = some none)
    (z9 : PySem.W.nsIn K mainGlobals "tuple" = some none)
    (cg0 : PySem.W.nsIn K mainGlobals "INTERMEDIATE" = some (some (.ref t0)))
    (ch0 : K.lookup t0 = some ⟨.type "tuple", td0, .seq (List.toArray [.str "Int" tk0_0, .str "KC" tk0_1, .str "LC" tk0_2, .str "BD2" tk0_3, .str "HT" tk0_4, .str "Cl" tk0_5]) te0, ts0⟩)
    (cg1 : PySem.W.nsIn K mainGlobals "MODAL" = some (some (.ref t1)))
    (ch1 : K.lookup t1 = some ⟨.type "tuple", td1, .seq (List.toArray [.str "K" tk1_0, .str "D" tk1_1, .str "T" tk1_2, .str "K4" tk1_3, .str "D4" tk1_4, .str "S4" tk1_5, .str "S5" tk1_6, .str "GL" tk1_7, .str "Grz" tk1_8]) te1, ts1⟩)
    (ta0 : PySem.W.nsIn K mainGlobals "RULES" = some (some (.ref d0)))
    (tb0 : K.lookup d0 = some ⟨.type "dict", none, .dict es0 dn0, #[]⟩)
    (tc0 : PySem.W.KeysLit w.params es0.toList)
    (ti0_0 : PySem.W.nsIn K d0 "axiom" = some (some (.ref u0_0)))
    (tl0_0 : K.lookup u0_0 = some ⟨.type "tuple", vd0_0, .seq (List.toArray [.ref f7, .ref w0_1]) ve0_0, vs0_0⟩)
    (tl0_2 : K.lookup w0_1 = some ⟨.type "tuple", vd0_2, .seq (List.toArray [.str "K" tv0_2_0, .str "D" tv0_2_1, .str "T" tv0_2_2, .str "K4" tv0_2_3, .str "D4" tv0_2_4, .str "S4" tv0_2_5, .str "S5" tv0_2_6, .str "GL" tv0_2_7, .str "Grz" tv0_2_8, .str "Int" tv0_2_9, .str "KC" tv0_2_10, .str "LC" tv0_2_11, .str "BD2" tv0_2_12, .str "HT" tv0_2_13, .str "Cl" tv0_2_14]) ve0_2, vs0_2⟩)
    (ti0_1 : PySem.W.nsIn K d0 "cut" = some (some (.ref u0_1)))
    (tl0_3 : K.lookup u0_1 = some ⟨.type "tuple", vd0_3, .seq (List.toArray [.ref f8, .ref w0_4]) ve0_3, vs0_3⟩)
    (tl0_5 : K.lookup w0_4 = some ⟨.type "tuple", vd0_5, .seq (List.toArray [.str "K" tv0_5_0, .str "D" tv0_5_1, .str "T" tv0_5_2, .str "K4" tv0_5_3, .str "D4" tv0_5_4, .str "S4" tv0_5_5, .str "S5" tv0_5_6, .str "GL" tv0_5_7, .str "Grz" tv0_5_8, .str "Int" tv0_5_9, .str "KC" tv0_5_10, .str "LC" tv0_5_11, .str "BD2" tv0_5_12, .str "HT" tv0_5_13, .str "Cl" tv0_5_14]) ve0_5, vs0_5⟩)
    (xos0 : (d0 == sysModules) = false)
    (tm0_0 : PySem.W.nsIn K d0 "weaken" = some none)
    (xa0 : PySem.W.nsIn K mainGlobals "UnknownLogic" = some (some (.ref x0)))
    (xb0 : PySem.W.excIn K x0 [.type "ValueError", .type "Exception", .type "BaseException", .type "object"] "ValueError.__new__" = true)
    (xc0 : PySem.W.keepIn K (.ref x0) = true)
    (xd0 : PySem.W.subIn K (.ref x0) (.type "BaseException") = some true)
    (xe0 : PySem.W.typeIn K (.ref x0) = some (.type "type"))
    (xf0 : PySem.W.findIn K (.ref x0) "__getattribute__" = some (some (.builtin "BaseException.__getattribute__")))
    (xg0 : PySem.W.findIn K (.ref x0) "__getattr__" = some none)
    (xh0 : PySem.W.hasDictIn K x0 = true)
    (xi0 : PySem.W.findIn K (.ref x0) "__class__" = some (some (.builtin "object.__class__")))
    (xj0 : PySem.W.specialIn K (.builtin "object.__class__") "__get__" = some (some (.builtin "getset_descriptor.__get__")))
    (xk0 : PySem.W.takesIn K (.builtin "object.__class__") = some true)
    (xl0 : PySem.W.mroIn K x0 (.type "object") = some true)
    (xa1 : PySem.W.nsIn K mainGlobals "NoFit" = some (some (.ref x1)))
    (xb1 : PySem.W.excIn K x1 [.type "ValueError", .type "Exception", .type "BaseException", .type "object"] "ValueError.__new__" = true)
    (xc1 : PySem.W.keepIn K (.ref x1) = true)
    (xd1 : PySem.W.subIn K (.ref x1) (.type "BaseException") = some true)
    (xe1 : PySem.W.typeIn K (.ref x1) = some (.type "type"))
    (xf1 : PySem.W.findIn K (.ref x1) "__getattribute__" = some (some (.builtin "BaseException.__getattribute__")))
    (xg1 : PySem.W.findIn K (.ref x1) "__getattr__" = some none)
    (xh1 : PySem.W.hasDictIn K x1 = true)
    (xi1 : PySem.W.findIn K (.ref x1) "__class__" = some (some (.builtin "object.__class__")))
    (xj1 : PySem.W.specialIn K (.builtin "object.__class__") "__get__" = some (some (.builtin "getset_descriptor.__get__")))
    (xk1 : PySem.W.takesIn K (.builtin "object.__class__") = some true)
    (xl1 : PySem.W.mroIn K x1 (.type "object") = some true)
    (xa2 : PySem.W.nsIn K mainGlobals "ElsewhereError" = some (some (.ref x2)))
    (xd2 : PySem.W.subIn K (.ref x2) (.type "BaseException") = some true)
    (xe2 : PySem.W.typeIn K (.ref x2) = some (.type "type"))
    (xh2 : PySem.W.hasDictIn K x2 = true)
    (xm0_1 : PySem.W.subIn K (.ref x0) (.ref x1) = some false)
    (xo0_1 : (Value.ref x0 == Value.ref x1) = false)
    (xm0_2 : PySem.W.subIn K (.ref x0) (.ref x2) = some true)
    (xo0_2 : (Value.ref x0 == Value.ref x2) = false)
    (xm1_1 : PySem.W.subIn K (.ref x1) (.ref x1) = some true)
    (xo1_1 : (Value.ref x1 == Value.ref x1) = true)
    (xm1_2 : PySem.W.subIn K (.ref x1) (.ref x2) = some true)
    (xo1_2 : (Value.ref x1 == Value.ref x2) = false) :
    ∃ fd : FuncData, (∀ (s : Shared) (u : Value), BindsTo s fd ⟨[u], []⟩ [("_law_script", u)]) ∧ Fun K "law" "law" st_law fa fd ∧ Ad K mg w := by
  have e := hfa.symm.trans (PySem.W.mg_of X G a25)
  cases e
  have F0 := fun_mk (st := st_parts) l0 c0 k0
  have F1 := fun_mk (st := st_modal_depth) l1 c1 k1
  have F2 := fun_mk (st := st_is_plain) l2 c2 k2
  have F3 := fun_mk (st := st_require_logic) l3 c3 k3
  have F4 := fun_mk (st := st_ascending) l4 c4 k4
  have F5 := fun_mk (st := st_added) l5 c5 k5
  have F6 := fun_mk (st := st_require) l6 c6 k6
  have F7 := fun_mk (st := st_axiom) l7 c7 k7
  have F8 := fun_mk (st := st_cut) l8 c8 k8
  have F9 := fun_mk (st := st_premises_of) l9 c9 k9
  have F10 := fun_mk (st := st_is_weaker) l10 c10 k10
  have F11 := fun_mk (st := st_is_right) l11 c11 k11
  have F12 := fun_mk (st := st_first_wrong) l12 c12 k12
  have F13 := fun_mk (st := st_is_derivation) l13 c13 k13
  have F14 := fun_mk (st := st_conclusion_of) l14 c14 k14
  have F15 := fun_mk (st := st_derives) l15 c15 k15
  have F16 := fun_mk (st := st_renumbered) l16 c16 k16
  have F17 := fun_mk (st := st_joined) l17 c17 k17
  have F18 := fun_mk (st := st_law_cell) l18 c18 k18
  have F19 := fun_mk (st := st_law_numbers) l19 c19 k19
  have F20 := fun_mk (st := st_law_formula) l20 c20 k20
  have F21 := fun_mk (st := st_law_goal) l21 c21 k21
  have F22 := fun_mk (st := st_law_logic) l22 c22 k22
  have F23 := fun_mk (st := st_law_add) l23 c23 k23
  have F24 := fun_mk (st := st_law_two) l24 c24 k24
  have F25 := fun_mk (st := st_law) l25 c25 k25
  refine ⟨_, fun s v => .of_eq rfl, F25, {
    bt := { m_abs := PySem.W.mg_none_of X G z0, m_int := PySem.W.mg_none_of X G z1, m_isinstance := PySem.W.mg_none_of X G z2, m_len := PySem.W.mg_none_of X G z3, m_list := PySem.W.mg_none_of X G z4, m_max := PySem.W.mg_none_of X G z5, m_range := PySem.W.mg_none_of X G z6, m_set := PySem.W.mg_none_of X G z7, m_sorted := PySem.W.mg_none_of X G z8, m_tuple := PySem.W.mg_none_of X G z9, g_INTERMEDIATE := gk_texts (xs := ["Int", "KC", "LC", "BD2", "HT", "Cl"]) (PySem.W.mg_of X G cg0) ch0 (.cons ⟨_, rfl⟩ (.cons ⟨_, rfl⟩ (.cons ⟨_, rfl⟩ (.cons ⟨_, rfl⟩ (.cons ⟨_, rfl⟩ (.cons ⟨_, rfl⟩ .nil)))))) (by decide), g_MODAL := gk_texts (xs := ["K", "D", "T", "K4", "D4", "S4", "S5", "GL", "Grz"]) (PySem.W.mg_of X G cg1) ch1 (.cons ⟨_, rfl⟩ (.cons ⟨_, rfl⟩ (.cons ⟨_, rfl⟩ (.cons ⟨_, rfl⟩ (.cons ⟨_, rfl⟩ (.cons ⟨_, rfl⟩ (.cons ⟨_, rfl⟩ (.cons ⟨_, rfl⟩ (.cons ⟨_, rfl⟩ .nil))))))))) (by decide), t_RULES := ⟨⟨d0, PySem.W.mg_of X G ta0, xos0, (by
      intro q hq
      simp only [t_RULES, List.mem_cons, List.not_mem_nil, or_false] at hq
      rcases hq with rfl | rfl
      · exact ⟨.ref u0_0, ⟨es0, dn0, .ref u0_0, tb0, tc0, ti0_0, rfl⟩, (kd_tup (vs := [.ref f7, .ref w0_1]) tl0_0 (.cons rfl (.cons rfl .nil)) (Nat.le_of_ble_eq_true rfl) (kds_cons (kd_fn (PySem.W.mg_of X G a7)) (kds_cons (kd_tup (vs := [.str "K", .str "D", .str "T", .str "K4", .str "D4", .str "S4", .str "S5", .str "GL", .str "Grz", .str "Int", .str "KC", .str "LC", .str "BD2", .str "HT", .str "Cl"]) tl0_2 (.cons (⟨_, rfl⟩) (.cons (⟨_, rfl⟩) (.cons (⟨_, rfl⟩) (.cons (⟨_, rfl⟩) (.cons (⟨_, rfl⟩) (.cons (⟨_, rfl⟩) (.cons (⟨_, rfl⟩) (.cons (⟨_, rfl⟩) (.cons (⟨_, rfl⟩) (.cons (⟨_, rfl⟩) (.cons (⟨_, rfl⟩) (.cons (⟨_, rfl⟩) (.cons (⟨_, rfl⟩) (.cons (⟨_, rfl⟩) (.cons (⟨_, rfl⟩) .nil))))))))))))))) (Nat.le_of_ble_eq_true rfl) (kds_cons kd_str (kds_cons kd_str (kds_cons kd_str (kds_cons kd_str (kds_cons kd_str (kds_cons kd_str (kds_cons kd_str (kds_cons kd_str (kds_cons kd_str (kds_cons kd_str (kds_cons kd_str (kds_cons kd_str (kds_cons kd_str (kds_cons kd_str (kds_cons kd_str kds_nil)))))))))))))))) kds_nil)))⟩
      · exact ⟨.ref u0_1, ⟨es0, dn0, .ref u0_1, tb0, tc0, ti0_1, rfl⟩, (kd_tup (vs := [.ref f8, .ref w0_4]) tl0_3 (.cons rfl (.cons rfl .nil)) (Nat.le_of_ble_eq_true rfl) (kds_cons (kd_fn (PySem.W.mg_of X G a8)) (kds_cons (kd_tup (vs := [.str "K", .str "D", .str "T", .str "K4", .str "D4", .str "S4", .str "S5", .str "GL", .str "Grz", .str "Int", .str "KC", .str "LC", .str "BD2", .str "HT", .str "Cl"]) tl0_5 (.cons (⟨_, rfl⟩) (.cons (⟨_, rfl⟩) (.cons (⟨_, rfl⟩) (.cons (⟨_, rfl⟩) (.cons (⟨_, rfl⟩) (.cons (⟨_, rfl⟩) (.cons (⟨_, rfl⟩) (.cons (⟨_, rfl⟩) (.cons (⟨_, rfl⟩) (.cons (⟨_, rfl⟩) (.cons (⟨_, rfl⟩) (.cons (⟨_, rfl⟩) (.cons (⟨_, rfl⟩) (.cons (⟨_, rfl⟩) (.cons (⟨_, rfl⟩) .nil))))))))))))))) (Nat.le_of_ble_eq_true rfl) (kds_cons kd_str (kds_cons kd_str (kds_cons kd_str (kds_cons kd_str (kds_cons kd_str (kds_cons kd_str (kds_cons kd_str (kds_cons kd_str (kds_cons kd_str (kds_cons kd_str (kds_cons kd_str (kds_cons kd_str (kds_cons kd_str (kds_cons kd_str (kds_cons kd_str kds_nil)))))))))))))))) kds_nil)))⟩
                ), (by
      intro z hz
      simp only [List.mem_cons, List.not_mem_nil, or_false] at hz
      rcases hz with rfl
      · exact ⟨es0, dn0, tb0, tc0, xos0, tm0_0⟩
                )⟩⟩, xt := ⟨(by
      intro c hc
      simp only [csL, List.mem_cons, List.not_mem_nil, or_false] at hc
      rcases hc with rfl | rfl
      · exact ⟨⟨_, PySem.W.mg_of X G xa0, xb0, xc0, xd0, xe0⟩, fun A hA => (by
          cases hA.symm.trans (PySem.W.mg_of X G xa0)
          exact ⟨xf0, xg0, xd0, xh0, xi0, xj0, xk0, xl0⟩)⟩
      · exact ⟨⟨_, PySem.W.mg_of X G xa1, xb1, xc1, xd1, xe1⟩, fun A hA => (by
          cases hA.symm.trans (PySem.W.mg_of X G xa1)
          exact ⟨xf1, xg1, xd1, xh1, xi1, xj1, xk1, xl1⟩)⟩
                        ), (by
      intro c hc
      simp only [usL, List.mem_cons, List.not_mem_nil, or_false] at hc
      rcases hc with rfl | rfl
      · exact ⟨_, PySem.W.mg_of X G xa1⟩
      · exact ⟨_, PySem.W.mg_of X G xa2⟩
                        ), (by
      intro c hc u hu A B hA hB
      simp only [csL, List.mem_cons, List.not_mem_nil, or_false] at hc
      simp only [usL, List.mem_cons, List.not_mem_nil, or_false] at hu
      rcases hc with rfl | rfl
      · cases hA.symm.trans (PySem.W.mg_of X G xa0)
        rcases hu with rfl | rfl
        · cases hB.symm.trans (PySem.W.mg_of X G xa1)
          have z := exm_both xd1 xh1 xe1 xm0_1 xo0_1 (by decide)
          exact ⟨z.1.trans (by decide +kernel), z.2.trans (by decide +kernel)⟩
        · cases hB.symm.trans (PySem.W.mg_of X G xa2)
          have z := exm_both xd2 xh2 xe2 xm0_2 xo0_2 (by decide)
          exact ⟨z.1.trans (by decide +kernel), z.2.trans (by decide +kernel)⟩
      · cases hA.symm.trans (PySem.W.mg_of X G xa1)
        rcases hu with rfl | rfl
        · cases hB.symm.trans (PySem.W.mg_of X G xa1)
          have z := exm_both xd1 xh1 xe1 xm1_1 xo1_1 (by decide)
          exact ⟨z.1.trans (by decide +kernel), z.2.trans (by decide +kernel)⟩
        · cases hB.symm.trans (PySem.W.mg_of X G xa2)
          have z := exm_both xd2 xh2 xe2 xm1_2 xo1_2 (by decide)
          exact ⟨z.1.trans (by decide +kernel), z.2.trans (by decide +kernel)⟩
                        )⟩ },
    a_f_parts := ⟨_, _, PySem.W.mg_of X G a0, F0, F0.binds (ps := ["a"]) (fun _ _ _ _ _ _ us hl => match us, hl with | [_], _ => rfl)⟩,
    a_f_modal_depth := ⟨_, _, PySem.W.mg_of X G a1, F1, F1.binds (ps := ["a"]) (fun _ _ _ _ _ _ us hl => match us, hl with | [_], _ => rfl)⟩,
    a_f_is_plain := ⟨_, _, PySem.W.mg_of X G a2, F2, F2.binds (ps := ["a"]) (fun _ _ _ _ _ _ us hl => match us, hl with | [_], _ => rfl)⟩,
    a_f_require_logic := ⟨_, _, PySem.W.mg_of X G a3, F3, F3.binds (ps := ["logic"]) (fun _ _ _ _ _ _ us hl => match us, hl with | [_], _ => rfl)⟩,
    a_f_ascending := ⟨_, _, PySem.W.mg_of X G a4, F4, F4.binds (ps := ["formulas"]) (fun _ _ _ _ _ _ us hl => match us, hl with | [_], _ => rfl)⟩,
    a_f_added := ⟨_, _, PySem.W.mg_of X G a5, F5, (by
      intro j hj us hl
      simp only [List.mem_cons, List.not_mem_nil, or_false] at hj
      rcases hj with rfl
      · exact (match us, hl with | [_, _], _ => rfl)
                )⟩,
    a_f_require := ⟨_, _, PySem.W.mg_of X G a6, F6, F6.binds (ps := ["fits"]) (fun _ _ _ _ _ _ us hl => match us, hl with | [_], _ => rfl)⟩,
    a_f_axiom := ⟨_, _, PySem.W.mg_of X G a7, F7, F7.binds (ps := ["logic", "left", "right", "main"]) (fun _ _ _ _ _ _ us hl => match us, hl with | [_, _, _, _], _ => rfl)⟩,
    a_f_cut := ⟨_, _, PySem.W.mg_of X G a8, F8, F8.binds (ps := ["logic", "left", "right", "main"]) (fun _ _ _ _ _ _ us hl => match us, hl with | [_, _, _, _], _ => rfl)⟩,
    a_f_premises_of := ⟨_, _, PySem.W.mg_of X G a9, F9, F9.binds (ps := ["logic", "rule", "conclusion", "main"]) (fun _ _ _ _ _ _ us hl => match us, hl with | [_, _, _, _], _ => rfl)⟩,
    a_f_is_weaker := ⟨_, _, PySem.W.mg_of X G a10, F10, F10.binds (ps := ["conclusion", "premise"]) (fun _ _ _ _ _ _ us hl => match us, hl with | [_, _], _ => rfl)⟩,
    a_f_is_right := ⟨_, _, PySem.W.mg_of X G a11, F11, F11.binds (ps := ["logic", "steps", "at"]) (fun _ _ _ _ _ _ us hl => match us, hl with | [_, _, _], _ => rfl)⟩,
    a_f_first_wrong := ⟨_, _, PySem.W.mg_of X G a12, F12, F12.binds (ps := ["logic", "steps"]) (fun _ _ _ _ _ _ us hl => match us, hl with | [_, _], _ => rfl)⟩,
    a_f_is_derivation := ⟨_, _, PySem.W.mg_of X G a13, F13, F13.binds (ps := ["logic", "steps"]) (fun _ _ _ _ _ _ us hl => match us, hl with | [_, _], _ => rfl)⟩,
    a_f_conclusion_of := ⟨_, _, PySem.W.mg_of X G a14, F14, F14.binds (ps := ["steps"]) (fun _ _ _ _ _ _ us hl => match us, hl with | [_], _ => rfl)⟩,
    a_f_derives := ⟨_, _, PySem.W.mg_of X G a15, F15, F15.binds (ps := ["logic", "steps", "wanted"]) (fun _ _ _ _ _ _ us hl => match us, hl with | [_, _, _], _ => rfl)⟩,
    a_f_renumbered := ⟨_, _, PySem.W.mg_of X G a16, F16, F16.binds (ps := ["step", "numbers"]) (fun _ _ _ _ _ _ us hl => match us, hl with | [_, _], _ => rfl)⟩,
    a_f_joined := ⟨_, _, PySem.W.mg_of X G a17, F17, F17.binds (ps := ["first", "second", "main"]) (fun _ _ _ _ _ _ us hl => match us, hl with | [_, _, _], _ => rfl)⟩,
    a_f_law_cell := ⟨_, _, PySem.W.mg_of X G a18, F18, F18.binds (ps := ["_law_script", "_law_k"]) (fun _ _ _ _ _ _ us hl => match us, hl with | [_, _], _ => rfl)⟩,
    a_f_law_numbers := ⟨_, _, PySem.W.mg_of X G a19, F19, F19.binds (ps := ["_law_script", "_law_first", "_law_most"]) (fun _ _ _ _ _ _ us hl => match us, hl with | [_, _, _], _ => rfl)⟩,
    a_f_law_formula := ⟨_, _, PySem.W.mg_of X G a20, F20, F20.binds (ps := ["_law_pool", "_law_depth", "_law_plain"]) (fun _ _ _ _ _ _ us hl => match us, hl with | [_, _, _], _ => rfl)⟩,
    a_f_law_goal := ⟨_, _, PySem.W.mg_of X G a21, F21, F21.binds (ps := ["_law_pool", "_law_most", "_law_plain"]) (fun _ _ _ _ _ _ us hl => match us, hl with | [_, _, _], _ => rfl)⟩,
    a_f_law_logic := ⟨_, _, PySem.W.mg_of X G a22, F22, F22.binds (ps := ["_law_number", "_law_plain"]) (fun _ _ _ _ _ _ us hl => match us, hl with | [_, _], _ => rfl)⟩,
    a_f_law_add := ⟨_, _, PySem.W.mg_of X G a23, F23, F23.binds (ps := ["_law_side", "_law_formulas"]) (fun _ _ _ _ _ _ us hl => match us, hl with | [_, _], _ => rfl)⟩,
    a_f_law_two := ⟨_, _, PySem.W.mg_of X G a24, F24, F24.binds (ps := ["_law_goal_here", "_law_shared"]) (fun _ _ _ _ _ _ us hl => match us, hl with | [_, _], _ => rfl)⟩,
    a_f_law := ⟨_, _, PySem.W.mg_of X G a25, F25, F25.binds (ps := ["_law_script"]) (fun _ _ _ _ _ _ us hl => match us, hl with | [_], _ => rfl)⟩ }⟩

theorem fin_ok {P : Program} {w : World} {K : PySem.W.Frag} {mg : Str → Option Value} {fa : Addr} (h : ∃ fd : FuncData, (∀ (s : Shared) (u : Value), BindsTo s fd ⟨[u], []⟩ [("_law_script", u)]) ∧ Fun K "law" "law" st_law fa fd ∧ Ad K mg w) :
    ∃ fd : FuncData, (∀ (s : Shared) (u : Value), BindsTo s fd ⟨[u], []⟩ [("_law_script", u)]) ∧ ∀ base : Heap, K.In base → base.Ns mainGlobals mg → FnOk P w K mg base (L2.CX P w) 60 fa fd ["_law_script"] (spF ⟨K, mg, w⟩ (ev 60 .f_law) 1) := by
  obtain ⟨fd, hb, F, T⟩ := h
  exact ⟨fd, hb, fun base _ _ => ok_law T.bt (all_ok T 59) F⟩
end K
namespace K
open PySem PySem.Spec L2 Fx
theorem e_cell {n i : Nat} {ns : List Int} {ro w : List D} : ∃ v : Int, ev (n + 1) .f_law_cell [.lst (ns.map .int), .int i] ro w = .ok (.int v) w := by
  rw [q_law_cell]
  by_cases c : i < ns.length
  · exact ⟨ns[i], by simp [x_def, b_law_cell, c]⟩
  · exact ⟨0, by simp [x_def, b_law_cell, c]⟩
theorem e_nums {n : Nat} (h : 0 < n) : NumSpec (ev n .f_law_numbers) := by
  obtain ⟨m, rfl⟩ : ∃ m, n = m + 1 := ⟨n - 1, by omega⟩
  exact numbers_ok
theorem e_form : ∀ {d n : Nat}, d < n → FormulaSpec d (ev n .f_law_formula)
  | d, n + 1, h => by
    have ih : ∀ d', d = d' + 1 → FormulaSpec d' (ev n .f_law_formula) := fun d' e => e_form (by omega)
    exact Lw.formulaI_ok (c := ev n .f_law_formula) ih
/-- the formulas here -/
structure Fs (l : List Fm) : Prop where
  ht : ∀ φ ∈ l, φ.ht ≤ 4
  ov : ∀ φ ∈ l, φ.Over SOk
  few : l.length ≤ 9
abbrev fL (l : List Fm) : D := .lst (l.map Fm.toD)
abbrev fT (l : List Fm) : D := .tup (l.map Fm.toD)
abbrev As (l : List Fm) : List Fm := asc fmS l
theorem Fs.as {l : List Fm} (h : Fs l) : Fs (As l) := ⟨fun φ hφ => h.ht φ ((asc_mem fmS).mp hφ), fun φ hφ => h.ov φ ((asc_mem fmS).mp hφ), Nat.le_trans (asc_short fmS l) h.few⟩
section
variable {l : List Fm} {ro w : List D}
theorem Fs.eqoL (h : Fs l) : (fL l).eqo = true := eqo_list fmS (fun φ hφ => φ.lay (h.ov φ hφ)) fun φ hφ => by
  show φ.toD.dp ≤ 63
  rw [φ.dp]
  have := h.ht φ hφ
  omega
theorem Fs.sskL (h : Fs l) : gSSK (fL l) ro w = .ok (fL (As l)) w := ssk_lst fmS (fun φ hφ => Fm.isKey (by have := h.ht φ hφ; omega)) (fun φ hφ => φ.lay (h.ov φ hφ)) (fun φ hφ => by
  show φ.toD.dp ≤ 64
  rw [φ.dp]
  have := h.ht φ hφ
  omega) (by have := h.few; omega)
theorem Fs.sskT (h : Fs l) : gSSK (fT l) ro w = .ok (fL (As l)) w := ssk_tup fmS (fun φ hφ => Fm.isKey (by have := h.ht φ hφ; omega)) (fun φ hφ => φ.lay (h.ov φ hφ)) (fun φ hφ => by
  show φ.toD.dp ≤ 64
  rw [φ.dp]
  have := h.ht φ hφ
  omega) (by have := h.few; omega)
theorem Fs.eqoT (h : Fs l) : (fT l).eqo = true := by
  have e := h.eqoL
  unfold D.eqo at e ⊢
  refine eqo_of ?_ ?_ ?_
  · simp only [D.nb]
    exact nbs_iff.mpr fun d hd => by obtain ⟨φ, _, rfl⟩ := List.mem_map.mp hd; exact φ.nb
  · simp only [D.lay]
    exact lays_iff.mpr fun d hd => by obtain ⟨φ, hφ, rfl⟩ := List.mem_map.mp hd; exact φ.lay (h.ov φ hφ)
  · simp only [D.dp]
    have : D.dps (l.map Fm.toD) ≤ 63 := dps_iff.mpr fun d hd => by
      obtain ⟨φ, hφ, rfl⟩ := List.mem_map.mp hd
      rw [φ.dp]
      have := h.ht φ hφ
      omega
    omega
end
theorem two_eqo {t : List D → D} (ht : t = .lst ∨ t = .tup) {a b : D} (h1 : a.nb = true ∧ a.lay = true ∧ a.dp ≤ 60) (h2 : b.nb = true ∧ b.lay = true ∧ b.dp ≤ 60) : (t [a, b]).eqo = true := by
  have g : D.dps [a, b] ≤ 60 := dps_iff.mpr fun d hd => by
    simp only [List.mem_cons, List.not_mem_nil, or_false] at hd
    rcases hd with rfl | rfl
    · exact h1.2.2
    · exact h2.2.2
  have n : D.nbs [a, b] = true := nbs_iff.mpr fun d hd => by
    simp only [List.mem_cons, List.not_mem_nil, or_false] at hd
    rcases hd with rfl | rfl
    · exact h1.1
    · exact h2.1
  have y : D.lays [a, b] = true := lays_iff.mpr fun d hd => by
    simp only [List.mem_cons, List.not_mem_nil, or_false] at hd
    rcases hd with rfl | rfl
    · exact h1.2.1
    · exact h2.2.1
  rcases ht with rfl | rfl
  · refine eqo_of (by simp only [D.nb]; exact n) (by simp only [D.lay]; exact y) (by simp only [D.dp]; omega)
  · refine eqo_of (by simp only [D.nb]; exact n) (by simp only [D.lay]; exact y) (by simp only [D.dp]; omega)
theorem Fs.facts {t : List D → D} (ht : t = .lst ∨ t = .tup) {l : List Fm} (h : Fs l) : (t (l.map Fm.toD)).nb = true ∧ (t (l.map Fm.toD)).lay = true ∧ (t (l.map Fm.toD)).dp ≤ 60 := by
  have n : D.nbs (l.map Fm.toD) = true := nbs_iff.mpr fun d hd => by obtain ⟨φ, _, rfl⟩ := List.mem_map.mp hd; exact φ.nb
  have y : D.lays (l.map Fm.toD) = true := lays_iff.mpr fun d hd => by obtain ⟨φ, hφ, rfl⟩ := List.mem_map.mp hd; exact φ.lay (h.ov φ hφ)
  have g : D.dps (l.map Fm.toD) ≤ 4 := dps_iff.mpr fun d hd => by
    obtain ⟨φ, hφ, rfl⟩ := List.mem_map.mp hd
    rw [φ.dp]
    exact h.ht φ hφ
  rcases ht with rfl | rfl
  · exact ⟨by simp only [D.nb]; exact n, by simp only [D.lay]; exact y, by simp only [D.dp]; omega⟩
  · exact ⟨by simp only [D.nb]; exact n, by simp only [D.lay]; exact y, by simp only [D.dp]; omega⟩
theorem fT_inj {l m : List Fm} : fT l = fT m ↔ l = m := by
  constructor
  · intro h
    injection h with h
    exact List.map_inj_right (fun a b => Fm.toD_inj.mp) |>.mp h
  · intro h
    rw [h]
/-! ### a rule's premises -/
theorem e_parts {k n : Nat} (h : 0 < n) : F1 gP k (ev n .f_parts) := by
  obtain ⟨m, rfl⟩ : ∃ m, n = m + 1 := ⟨n - 1, by omega⟩
  exact Pw.parts_ok
theorem e_depth : ∀ {k n : Nat}, k + 1 < n → F1 gMd k (ev n .f_modal_depth)
  | k, n + 1, h => Pw.depth_ok (c := ev n .f_modal_depth) (e_parts (by omega)) fun k' e => e_depth (by omega)
theorem e_plain {k n : Nat} (h : k + 2 < n) : F1 gPl k (ev n .f_is_plain) := by
  obtain ⟨m, rfl⟩ : ∃ m, n = m + 1 := ⟨n - 1, by omega⟩
  exact Pw.plain_ok (e_depth (by omega))
abbrev PsL := List (List Fm × List Fm)
abbrev sqD (p : List Fm × List Fm) : D := .tup [fT p.1, fT p.2]
abbrev psD (ps : PsL) : D := .lst (ps.map sqD)
def mD : Option Fm → D
  | none => .non
  | some φ => φ.toD
def prem (mo cl : Bool) (l r : List Fm) : Nat → Option Fm → Option PsL
  | 0, some φ => if φ ∈ l ∧ φ ∈ r then some [] else none
  | 1, none => if Fm.fal ∈ l then some [] else none
  | 2, some φ => if mo = true ∨ Fo.md φ = 0 then some [(l, As (r ++ [φ])), (As (l ++ [φ]), r)] else none
  | 3, some (.and a b) => if Fm.and a b ∈ l then some [(As (l ++ [a, b]), r)] else none
  | 4, some (.and a b) => if Fm.and a b ∈ r then some [(l, As (r ++ [a])), (l, As (r ++ [b]))] else none
  | 5, some (.or a b) => if Fm.or a b ∈ l then some [(As (l ++ [a]), r), (As (l ++ [b]), r)] else none
  | 6, some (.or a b) => if Fm.or a b ∈ r then some [(l, As (r ++ [a, b]))] else none
  | 7, some (.imp a b) => if Fm.imp a b ∈ l then some [(l, As (r ++ [a])), (As (l ++ [b]), r)] else none
  | 8, some (.imp a b) => if Fm.imp a b ∈ r then (if mo = true ∨ cl = true then some [(As (l ++ [a]), As (r ++ [b]))] else some [(As (l ++ [a]), [b])]) else none
  | _, _ => none
/-- what a rule's def does -/
def rs (o : Option PsL) (w : List D) : Out D := match o with
  | some ps => .ok (psD ps) w
  | none => .exn "NoFit" [] [] w
structure Mk (m : Option Fm) : Prop where
  ht : ∀ φ, m = some φ → φ.ht ≤ 4
  ov : ∀ φ, m = some φ → φ.Over SOk
section
variable {n : Nat} {ro w : List D} {l r s : List Fm} {m : Option Fm} {x : Str} {mo cl : Bool}
theorem Fs.app {l k : List Fm} (h : Fs l) (hl : l.length ≤ 7) (hk : ∀ φ ∈ k, φ.ht ≤ 4 ∧ φ.Over SOk) (kl : k.length ≤ 2) : Fs (l ++ k) := ⟨fun φ hφ => (List.mem_append.mp hφ).elim (h.ht φ) fun z => (hk φ z).1, fun φ hφ => (List.mem_append.mp hφ).elim (h.ov φ) fun z => (hk φ z).2, by rw [List.length_append]; omega⟩
theorem e_asc {l : List Fm} (h : Fs l) {d : D} (hd : d = fL l ∨ d = fT l) (ro w : List D) : ev (n + 1) .f_ascending [d] ro w = .ok (fT (As l)) w := by
  have s : gSSK d ro w = .ok (fL (As l)) w := by
    rcases hd with rfl | rfl
    · exact h.sskL
    · exact h.sskT
  have sd : see ro w d = d := by
    rcases hd with rfl | rfl <;> rfl
  rw [q_ascending, x_def]
  simp only [List.length_cons, List.length_nil, Nat.zero_add, Nat.reduceAdd, if_true, List.map_cons, List.map_nil, Nat.reduceSub, List.replicate, List.cons_append, List.nil_append, List.append_nil]
  unfold b_ascending
  rw [x_ret]
  simp only [x_and, x_or, x_not, x_andT, x_orT, x_notT, x_tru, x_test, x_bin, x_un, x_tup, x_lst, x_call, x_call0, x_args, x_args0, x_var, x_k, x_one, x_nil, x_if, List.getElem?_cons_zero, List.getElem?_cons_succ, ofO_ss, an_ok, List.length_cons, List.length_nil, Nat.zero_add, Nat.reduceAdd, if_true, Bool.false_eq_true, if_false, see_int, see_str, see_bl, see_lst, see_tup, see_non, bool_bl, truth_bl, st_ok, oan_nx, oan_rt, oan_bk, oan_ct, fin_rt, fin_nx, tn_nx, tn_rt, tn_ct, tn_bk, andV_bl, orV_bl, notV_bl, List.set_cons_succ, List.set_cons_zero, Bool.not_true, Bool.not_false, Bool.true_and, add_int, sub_int, eq_int, ne_int, lt_int, le_int, gt_int, ge_int, int_int, int_bl, len_lst, len_tup, List.map_cons, List.map_nil, List.length_map, x_one, sd, s, tuple_lst]
theorem add_fT {l k : List Fm} (h : Fs (l ++ k)) : gAdd (fT l) (fT k) ro w = .ok (fT (l ++ k)) w := by
  have hs : sizeLine = 16777216 := rfl
  have := h.few
  rw [List.length_append] at this
  show gAdd (.tup _) (.tup _) ro w = _
  rw [add_tup, if_pos (by rw [List.length_map, List.length_map]; omega), ← List.map_append]
theorem e_added {l k : List Fm} (h : Fs (l ++ k)) (ro w : List D) : ev (n + 2) .f_added [fT l, fT k] ro w = .ok (fT (As (l ++ k))) w := by
  have a := fun w => e_asc (n := n) h (.inr rfl) ro w
  have d := fun w => add_fT (ro := ro) (w := w) h
  have st : ∀ (l : List Fm) w, see ro w (fT l) = fT l := fun _ _ => rfl
  rw [q_added, x_def]
  simp only [List.length_cons, List.length_nil, Nat.zero_add, Nat.reduceAdd, if_true, List.map_cons, List.map_nil, Nat.reduceSub, List.replicate, List.cons_append, List.nil_append, List.append_nil]
  unfold b_added
  rw [x_ret]
  simp only [x_and, x_or, x_not, x_andT, x_orT, x_notT, x_tru, x_test, x_bin, x_un, x_tup, x_lst, x_call, x_call0, x_args, x_args0, x_var, x_k, x_one, x_nil, x_if, List.getElem?_cons_zero, List.getElem?_cons_succ, ofO_ss, an_ok, List.length_cons, List.length_nil, Nat.zero_add, Nat.reduceAdd, if_true, Bool.false_eq_true, if_false, see_int, see_str, see_bl, see_lst, see_tup, see_non, bool_bl, truth_bl, st_ok, oan_nx, oan_rt, oan_bk, oan_ct, fin_rt, fin_nx, tn_nx, tn_rt, tn_ct, tn_bk, andV_bl, orV_bl, notV_bl, List.set_cons_succ, List.set_cons_zero, Bool.not_true, Bool.not_false, Bool.true_and, add_int, sub_int, eq_int, ne_int, lt_int, le_int, gt_int, ge_int, int_int, int_bl, len_lst, len_tup, List.map_cons, List.map_nil, List.length_map, st, d, a]
theorem var2 {l : List Fm} {a : Fm} (h : Fs (l ++ [a])) : gVar 1 2 (ev (n + 2) .f_added) [fT l, a.toD] ro w = .ok (fT (As (l ++ [a]))) w := e_added h ro w
theorem in_fT {φ : Fm} (h : Fs l) (h1 : φ.ht ≤ 4) (h2 : φ.Over SOk) : gInT false φ.toD (fT l) ro w = .ok (.bl (decide (φ ∈ l))) w := by
  show gInT false φ.toD (.tup (l.map Fm.toD)) ro w = _
  rw [inT_eq (D.eqo_cmp (Fm.eqo h2 (by omega))) (D.eqo_cmp h.eqoT)]
  congr 2
  simp only [Bool.false_eq_true, if_false]
  rw [Bool.eq_iff_iff, List.any_eq_true, decide_eq_true_eq]
  constructor
  · rintro ⟨d, hd, e⟩
    obtain ⟨ψ, hψ, rfl⟩ := List.mem_map.mp hd
    have := Fm.toD_inj.mp ((eqv_nb _ _ ψ.nb φ.nb).mp e)
    rw [← this]
    exact hψ
  · intro hφ
    exact ⟨_, List.mem_map.mpr ⟨φ, hφ, rfl⟩, (eqv_nb _ _ φ.nb φ.nb).mpr rfl⟩
theorem e_require {b : Bool} : ev (n + 1) .f_require [.bl b] ro w = if b = true then .ok .non w else .exn "NoFit" [] [] w := by
  rw [q_require]
  cases b <;> simp [x_def, b_require]
theorem see_mD (w : List D) : see ro w (mD m) = mD m := by
  cases m with
  | none => rfl
  | some φ => exact see_fm
theorem tag_ok {φ : Fm} : PyData.strOk φ.tag = true := by cases φ <;> exact ok_lit
end
section
variable {n : Nat} {ro w : List D} {l r : List Fm} {m : Option Fm} {x : Str} {mo cl : Bool}
/-- what's common: the sides -/
structure Sd (l r : List Fm) (m : Option Fm) : Prop where
  sl : Fs l
  sr : Fs r
  ll : l.length ≤ 7
  rl : r.length ≤ 7
  m : Mk m
theorem part_l {a b : Fm} {f : Fm → Fm → Fm} (hf : f = .and ∨ f = .or ∨ f = .imp) (h : Mk (some (f a b))) : (a.ht ≤ 4 ∧ a.Over SOk) ∧ (b.ht ≤ 4 ∧ b.Over SOk) := by
  have h1 := h.ht _ rfl
  have h2 := h.ov _ rfl
  rcases hf with rfl | rfl | rfl
  · simp only [Fm.ht] at h1
    exact ⟨⟨by omega, h2.1⟩, ⟨by omega, h2.2⟩⟩
  · simp only [Fm.ht] at h1
    exact ⟨⟨by omega, h2.1⟩, ⟨by omega, h2.2⟩⟩
  · simp only [Fm.ht] at h1
    exact ⟨⟨by omega, h2.1⟩, ⟨by omega, h2.2⟩⟩
theorem one_in {a : Fm} (h : a.ht ≤ 4 ∧ a.Over SOk) : ∀ φ ∈ [a], φ.ht ≤ 4 ∧ φ.Over SOk := fun φ hφ => by
  rw [List.mem_singleton.mp hφ]
  exact h
theorem two_in {a b : Fm} (h : a.ht ≤ 4 ∧ a.Over SOk) (g : b.ht ≤ 4 ∧ b.Over SOk) : ∀ φ ∈ [a, b], φ.ht ≤ 4 ∧ φ.Over SOk := fun φ hφ => by
  simp only [List.mem_cons, List.not_mem_nil, or_false] at hφ
  rcases hφ with rfl | rfl
  · exact h
  · exact g
end
section
variable {n : Nat} {ro w : List D} {l r : List Fm} {m : Option Fm} {x : Str} {mo cl : Bool}
theorem in_modal (hx : SOk x) : gIn (.str x) g_MODAL ro w = .ok (.bl (memB modalL x)) w := in_strs (ro := ro) (w := w) (l := modalL) (x := x)
theorem e_axiom (S : Sd l r m) : ev (n + 2) .f_axiom [.str x, fT l, fT r, mD m] ro w = rs (prem mo cl l r 0 m) w := by
  have rq := fun b w => e_require (n := n) (b := b) (ro := ro) (w := w)
  have st : ∀ (s : List Fm) w, see ro w (fT s) = fT s := fun _ _ => rfl
  rw [q_axiom, x_def]
  simp only [List.length_cons, List.length_nil, Nat.zero_add, Nat.reduceAdd, if_true, List.map_cons, List.map_nil, Nat.reduceSub, List.replicate, List.cons_append, List.nil_append, List.append_nil]
  unfold b_axiom
  rw [x_seq]
  cases m with
  | none =>
    have a : ∀ w, cAnd (cBin gNotN (cVar 3) (cK .non)) (cAnd (cBin (gInT false) (cVar 3) (cVar 1)) (cBin (gInT false) (cVar 3) (cVar 2))) [some (.str x), some (fT l), some (fT r), some (mD none)] ro w = .ok (.bl false) w := fun w => by
      rw [x_and]
      rfl
    rw [x_expr, x_call, x_args, a]
    simp only [x_and, x_or, x_not, x_andT, x_orT, x_notT, x_tru, x_test, x_bin, x_un, x_tup, x_lst, x_call, x_call0, x_args, x_args0, x_var, x_k, x_one, x_nil, x_if, List.getElem?_cons_zero, List.getElem?_cons_succ, ofO_ss, an_ok, List.length_cons, List.length_nil, Nat.zero_add, Nat.reduceAdd, if_true, Bool.false_eq_true, if_false, see_int, see_str, see_bl, see_lst, see_tup, see_non, bool_bl, truth_bl, st_ok, oan_nx, oan_rt, oan_bk, oan_ct, fin_rt, fin_nx, tn_nx, tn_rt, tn_ct, tn_bk, andV_bl, orV_bl, notV_bl, List.set_cons_succ, List.set_cons_zero, Bool.not_true, Bool.not_false, Bool.true_and, add_int, sub_int, eq_int, ne_int, lt_int, le_int, gt_int, ge_int, int_int, int_bl, len_lst, len_tup, List.map_cons, List.map_nil, List.length_map, rq]
    rfl
  | some φ =>
    have i1 := fun w => in_fT (ro := ro) (w := w) S.sl (S.m.ht φ rfl) (S.m.ov φ rfl)
    have i2 := fun w => in_fT (ro := ro) (w := w) S.sr (S.m.ht φ rfl) (S.m.ov φ rfl)
    have nn : ∀ w, gNotN φ.toD .non ro w = .ok (.bl true) w := fun w => by cases φ <;> rfl
    have sm : ∀ w, see ro w φ.toD = φ.toD := fun _ => see_fm
    have a : ∀ w, cAnd (cBin gNotN (cVar 3) (cK .non)) (cAnd (cBin (gInT false) (cVar 3) (cVar 1)) (cBin (gInT false) (cVar 3) (cVar 2))) [some (.str x), some (fT l), some (fT r), some (mD (some φ))] ro w = .ok (.bl (decide (φ ∈ l) && decide (φ ∈ r))) w := fun w => by
      rw [x_and]
      simp only [x_and, x_or, x_not, x_andT, x_orT, x_notT, x_tru, x_test, x_bin, x_un, x_tup, x_lst, x_call, x_call0, x_args, x_args0, x_var, x_k, x_one, x_nil, x_if, List.getElem?_cons_zero, List.getElem?_cons_succ, ofO_ss, an_ok, List.length_cons, List.length_nil, Nat.zero_add, Nat.reduceAdd, if_true, Bool.false_eq_true, if_false, see_int, see_str, see_bl, see_lst, see_tup, see_non, bool_bl, truth_bl, st_ok, oan_nx, oan_rt, oan_bk, oan_ct, fin_rt, fin_nx, tn_nx, tn_rt, tn_ct, tn_bk, andV_bl, orV_bl, notV_bl, List.set_cons_succ, List.set_cons_zero, Bool.not_true, Bool.not_false, Bool.true_and, add_int, sub_int, eq_int, ne_int, lt_int, le_int, gt_int, ge_int, int_int, int_bl, len_lst, len_tup, List.map_cons, List.map_nil, List.length_map, show mD (some φ) = φ.toD from rfl, sm, st, nn, i1, i2]
      by_cases c : φ ∈ l <;> simp [c]
    rw [x_expr, x_call, x_args, a]
    simp only [x_and, x_or, x_not, x_andT, x_orT, x_notT, x_tru, x_test, x_bin, x_un, x_tup, x_lst, x_call, x_call0, x_args, x_args0, x_var, x_k, x_one, x_nil, x_if, List.getElem?_cons_zero, List.getElem?_cons_succ, ofO_ss, an_ok, List.length_cons, List.length_nil, Nat.zero_add, Nat.reduceAdd, if_true, Bool.false_eq_true, if_false, see_int, see_str, see_bl, see_lst, see_tup, see_non, bool_bl, truth_bl, st_ok, oan_nx, oan_rt, oan_bk, oan_ct, fin_rt, fin_nx, tn_nx, tn_rt, tn_ct, tn_bk, andV_bl, orV_bl, notV_bl, List.set_cons_succ, List.set_cons_zero, Bool.not_true, Bool.not_false, Bool.true_and, add_int, sub_int, eq_int, ne_int, lt_int, le_int, gt_int, ge_int, int_int, int_bl, len_lst, len_tup, List.map_cons, List.map_nil, List.length_map, rq]
    have p : prem mo cl l r 0 (some φ) = if φ ∈ l ∧ φ ∈ r then some [] else none := rfl
    rw [p]
    by_cases c : φ ∈ l ∧ φ ∈ r
    · rw [if_pos c, decide_eq_true c.1, decide_eq_true c.2]
      rfl
    · rw [if_neg c]
      have : (decide (φ ∈ l) && decide (φ ∈ r)) = false := by
        rw [← Bool.decide_and]
        exact decide_eq_false c
      rw [this]
      rfl
theorem e_cut (hx : SOk x) (S : Sd l r m) (hn : 5 < n) : ev (n + 3) .f_cut [.str x, fT l, fT r, mD m] ro w = rs (prem (memB modalL x) cl l r 2 m) w := by
  have rq := fun b w => e_require (n := n + 1) (b := b) (ro := ro) (w := w)
  have st : ∀ (s : List Fm) w, see ro w (fT s) = fT s := fun _ _ => rfl
  have sg : ∀ w, see ro w g_MODAL = g_MODAL := fun _ => rfl
  have ic := fun w => in_modal (ro := ro) (w := w) hx
  rw [q_cut, x_def]
  simp only [List.length_cons, List.length_nil, Nat.zero_add, Nat.reduceAdd, if_true, List.map_cons, List.map_nil, Nat.reduceSub, List.replicate, List.cons_append, List.nil_append, List.append_nil]
  unfold b_cut
  rw [x_seq]
  cases m with
  | none =>
    have a : ∀ w, cAnd (cBin gNotN (cVar 3) (cK .non)) (cOr (cBin gIn (cVar 0) (cK g_MODAL)) (cCall (fun ds => if ds.length = 1 then ev (n + 2) .f_is_plain ds else M.no) (cArgs [cVar 3]))) [some (.str x), some (fT l), some (fT r), some (mD none)] ro w = .ok (.bl false) w := fun w => by
      rw [x_and]
      rfl
    rw [x_expr, x_call, x_args, a]
    simp only [x_and, x_or, x_not, x_andT, x_orT, x_notT, x_tru, x_test, x_bin, x_un, x_tup, x_lst, x_call, x_call0, x_args, x_args0, x_var, x_k, x_one, x_nil, x_if, List.getElem?_cons_zero, List.getElem?_cons_succ, ofO_ss, an_ok, List.length_cons, List.length_nil, Nat.zero_add, Nat.reduceAdd, if_true, Bool.false_eq_true, if_false, see_int, see_str, see_bl, see_lst, see_tup, see_non, bool_bl, truth_bl, st_ok, oan_nx, oan_rt, oan_bk, oan_ct, fin_rt, fin_nx, tn_nx, tn_rt, tn_ct, tn_bk, andV_bl, orV_bl, notV_bl, List.set_cons_succ, List.set_cons_zero, Bool.not_true, Bool.not_false, Bool.true_and, add_int, sub_int, eq_int, ne_int, lt_int, le_int, gt_int, ge_int, int_int, int_bl, len_lst, len_tup, List.map_cons, List.map_nil, List.length_map, rq]
    rfl
  | some φ =>
    have pl := fun w => e_plain (k := 4) (n := n + 2) (by omega) φ ro w (S.m.ht φ rfl)
    have nn : ∀ w, gNotN φ.toD .non ro w = .ok (.bl true) w := fun w => by cases φ <;> rfl
    have sm : ∀ w, see ro w φ.toD = φ.toD := fun _ => see_fm
    have a : ∀ w, cAnd (cBin gNotN (cVar 3) (cK .non)) (cOr (cBin gIn (cVar 0) (cK g_MODAL)) (cCall (fun ds => if ds.length = 1 then ev (n + 2) .f_is_plain ds else M.no) (cArgs [cVar 3]))) [some (.str x), some (fT l), some (fT r), some (mD (some φ))] ro w = .ok (.bl (decide (memB modalL x = true ∨ Fo.md φ = 0))) w := fun w => by
      rw [x_and]
      have e1 : cBin gIn (cVar 0) (cK g_MODAL) [some (.str x), some (fT l), some (fT r), some φ.toD] ro w = .ok (.bl (memB modalL x)) w := by
        simp only [x_and, x_or, x_not, x_andT, x_orT, x_notT, x_tru, x_test, x_bin, x_un, x_tup, x_lst, x_call, x_call0, x_args, x_args0, x_var, x_k, x_one, x_nil, x_if, List.getElem?_cons_zero, List.getElem?_cons_succ, ofO_ss, an_ok, List.length_cons, List.length_nil, Nat.zero_add, Nat.reduceAdd, if_true, Bool.false_eq_true, if_false, see_int, see_str, see_bl, see_lst, see_tup, see_non, bool_bl, truth_bl, st_ok, oan_nx, oan_rt, oan_bk, oan_ct, fin_rt, fin_nx, tn_nx, tn_rt, tn_ct, tn_bk, andV_bl, orV_bl, notV_bl, List.set_cons_succ, List.set_cons_zero, Bool.not_true, Bool.not_false, Bool.true_and, add_int, sub_int, eq_int, ne_int, lt_int, le_int, gt_int, ge_int, int_int, int_bl, len_lst, len_tup, List.map_cons, List.map_nil, List.length_map, sg, ic]
      have e2 : cCall (fun ds => if ds.length = 1 then ev (n + 2) .f_is_plain ds else M.no) (cArgs [cVar 3]) [some (.str x), some (fT l), some (fT r), some φ.toD] ro w = .ok (.bl (decide (Fo.md φ = 0))) w := by
        simp only [x_and, x_or, x_not, x_andT, x_orT, x_notT, x_tru, x_test, x_bin, x_un, x_tup, x_lst, x_call, x_call0, x_args, x_args0, x_var, x_k, x_one, x_nil, x_if, List.getElem?_cons_zero, List.getElem?_cons_succ, ofO_ss, an_ok, List.length_cons, List.length_nil, Nat.zero_add, Nat.reduceAdd, if_true, Bool.false_eq_true, if_false, see_int, see_str, see_bl, see_lst, see_tup, see_non, bool_bl, truth_bl, st_ok, oan_nx, oan_rt, oan_bk, oan_ct, fin_rt, fin_nx, tn_nx, tn_rt, tn_ct, tn_bk, andV_bl, orV_bl, notV_bl, List.set_cons_succ, List.set_cons_zero, Bool.not_true, Bool.not_false, Bool.true_and, add_int, sub_int, eq_int, ne_int, lt_int, le_int, gt_int, ge_int, int_int, int_bl, len_lst, len_tup, List.map_cons, List.map_nil, List.length_map, sm, pl]
      have e0 : cBin gNotN (cVar 3) (cK .non) [some (.str x), some (fT l), some (fT r), some φ.toD] ro w = .ok (.bl true) w := by
        simp only [x_and, x_or, x_not, x_andT, x_orT, x_notT, x_tru, x_test, x_bin, x_un, x_tup, x_lst, x_call, x_call0, x_args, x_args0, x_var, x_k, x_one, x_nil, x_if, List.getElem?_cons_zero, List.getElem?_cons_succ, ofO_ss, an_ok, List.length_cons, List.length_nil, Nat.zero_add, Nat.reduceAdd, if_true, Bool.false_eq_true, if_false, see_int, see_str, see_bl, see_lst, see_tup, see_non, bool_bl, truth_bl, st_ok, oan_nx, oan_rt, oan_bk, oan_ct, fin_rt, fin_nx, tn_nx, tn_rt, tn_ct, tn_bk, andV_bl, orV_bl, notV_bl, List.set_cons_succ, List.set_cons_zero, Bool.not_true, Bool.not_false, Bool.true_and, add_int, sub_int, eq_int, ne_int, lt_int, le_int, gt_int, ge_int, int_int, int_bl, len_lst, len_tup, List.map_cons, List.map_nil, List.length_map, sm, nn]
      rw [show mD (some φ) = φ.toD from rfl, e0, an_ok, andV_bl, if_pos rfl]
      rw [x_or, e1, an_ok]
      cases memB modalL x with
      | true => rfl
      | false =>
        show cCall _ _ _ _ _ = _
        rw [e2]
        simp
    rw [x_expr, x_call, x_args, a]
    simp only [x_and, x_or, x_not, x_andT, x_orT, x_notT, x_tru, x_test, x_bin, x_un, x_tup, x_lst, x_call, x_call0, x_args, x_args0, x_var, x_k, x_one, x_nil, x_if, List.getElem?_cons_zero, List.getElem?_cons_succ, ofO_ss, an_ok, List.length_cons, List.length_nil, Nat.zero_add, Nat.reduceAdd, if_true, Bool.false_eq_true, if_false, see_int, see_str, see_bl, see_lst, see_tup, see_non, bool_bl, truth_bl, st_ok, oan_nx, oan_rt, oan_bk, oan_ct, fin_rt, fin_nx, tn_nx, tn_rt, tn_ct, tn_bk, andV_bl, orV_bl, notV_bl, List.set_cons_succ, List.set_cons_zero, Bool.not_true, Bool.not_false, Bool.true_and, add_int, sub_int, eq_int, ne_int, lt_int, le_int, gt_int, ge_int, int_int, int_bl, len_lst, len_tup, List.map_cons, List.map_nil, List.length_map, rq]
    have p : prem (memB modalL x) cl l r 2 (some φ) = if memB modalL x = true ∨ Fo.md φ = 0 then some [(l, As (r ++ [φ])), (As (l ++ [φ]), r)] else none := rfl
    rw [p]
    by_cases c : memB modalL x = true ∨ Fo.md φ = 0
    · rw [if_pos c, decide_eq_true c]
      have v1 := fun w => var2 (n := n) (ro := ro) (w := w) (S.sr.app S.rl (one_in ⟨S.m.ht φ rfl, S.m.ov φ rfl⟩) (by simp))
      have v2 := fun w => var2 (n := n) (ro := ro) (w := w) (S.sl.app S.ll (one_in ⟨S.m.ht φ rfl, S.m.ov φ rfl⟩) (by simp))
      simp only [if_true, st_ok, oan_nx]
      rw [x_ret]
      simp only [x_and, x_or, x_not, x_andT, x_orT, x_notT, x_tru, x_test, x_bin, x_un, x_tup, x_lst, x_call, x_call0, x_args, x_args0, x_var, x_k, x_one, x_nil, x_if, List.getElem?_cons_zero, List.getElem?_cons_succ, ofO_ss, an_ok, List.length_cons, List.length_nil, Nat.zero_add, Nat.reduceAdd, if_true, Bool.false_eq_true, if_false, see_int, see_str, see_bl, see_lst, see_tup, see_non, bool_bl, truth_bl, st_ok, oan_nx, oan_rt, oan_bk, oan_ct, fin_rt, fin_nx, tn_nx, tn_rt, tn_ct, tn_bk, andV_bl, orV_bl, notV_bl, List.set_cons_succ, List.set_cons_zero, Bool.not_true, Bool.not_false, Bool.true_and, add_int, sub_int, eq_int, ne_int, lt_int, le_int, gt_int, ge_int, int_int, int_bl, len_lst, len_tup, List.map_cons, List.map_nil, List.length_map, show mD (some φ) = φ.toD from rfl, sm, st, v1, v2]
      rfl
    · rw [if_neg c, decide_eq_false c]
      rfl
end
/-! ### steps of a derivation -/
structure Stp where
  rule : Str
  l : List Fm
  r : List Fm
  m : Option Fm
  ns : List Int
abbrev numD (ns : List Int) : D := .tup (ns.map .int)
abbrev stpD (s : Stp) : D := .tup [.str s.rule, sqD (s.l, s.r), mD s.m, numD s.ns]
abbrev stsD (S : List Stp) : D := .lst (S.map stpD)
abbrev interL : List Str := ["Int", "KC", "LC", "BD2", "HT", "Cl"]
structure GoodS (s : Stp) : Prop where
  rule : SOk s.rule
  sd : Sd s.l s.r s.m
  ns : ∀ i ∈ s.ns, i.natAbs ≤ 1000000
  few : s.ns.length ≤ 1000
def weaker (l r l' r' : List Fm) : Bool := l'.all (fun φ => decide (φ ∈ l)) && r'.all (fun φ => decide (φ ∈ r))
def sqAt (S : List Stp) (i : Int) : List Fm × List Fm := match S[i.toNat]? with
  | some t => (t.l, t.r)
  | none => ([], [])
def right (it : Bool) (P : Stp → Option PsL) (S : List Stp) (a : Nat) (s : Stp) : Bool :=
  if (s.ns.all fun i => decide (0 ≤ i) && decide (i < a)) = false then false
  else if (it && !((s.l ++ s.r).all fun φ => decide (Fo.md φ = 0))) = true then false
  else if s.rule = "weaken" then decide (s.m = none) && (decide ((s.ns.map (sqAt S)).length = 1) && weaker s.l s.r (sqAt S (s.ns.headD 0)).1 (sqAt S (s.ns.headD 0)).2)
  else decide (P s = some (s.ns.map (sqAt S)))
section
variable {n : Nat} {ro w : List D}
theorem filt_neG {l : List Fm} (h1 : ∀ φ ∈ l, φ.ht ≤ 4) (h2 : ∀ φ ∈ l, φ.Over SOk) (p : Fm → Bool) : gNe (fL (l.filter p)) (.lst []) ro w = .ok (.bl (!l.all fun φ => !p φ)) w := by
  have hf : (fL (l.filter p)).eqo = true := eqo_list fmS (fun φ hφ => φ.lay (h2 φ (List.mem_filter.mp hφ).1)) fun φ hφ => by
    show φ.toD.dp ≤ 63
    rw [φ.dp]
    have := h1 φ (List.mem_filter.mp hφ).1
    omega
  rw [ne_eqo hf (eqo_of rfl rfl (by decide))]
  congr 3
  rw [Bool.eq_iff_iff, decide_eq_true_eq, List.all_eq_true]
  constructor
  · intro e φ hφ
    injection e with e
    have e := List.map_eq_nil_iff.mp e
    have := List.filter_eq_nil_iff.mp e φ hφ
    simpa using this
  · intro e
    have : l.filter p = [] := List.filter_eq_nil_iff.mpr fun φ hφ => by simpa using e φ hφ
    rw [this]
    rfl
theorem filt_ne {l : List Fm} (h : Fs l) (p : Fm → Bool) : gNe (fL (l.filter p)) (.lst []) ro w = .ok (.bl (!l.all fun φ => !p φ)) w := filt_neG h.ht h.ov p
theorem ninFT {φ : Fm} {l : List Fm} (h : Fs l) (h1 : φ.ht ≤ 4) (h2 : φ.Over SOk) : gInT true φ.toD (fT l) ro w = .ok (.bl (!decide (φ ∈ l))) w := by
  have := in_fT (ro := ro) (w := w) h h1 h2
  show gInT true φ.toD (.tup (l.map Fm.toD)) ro w = _
  rw [inT_eq (D.eqo_cmp (Fm.eqo h2 (by omega))) (D.eqo_cmp h.eqoT)]
  have e : gInT false φ.toD (.tup (l.map Fm.toD)) ro w = .ok (.bl (decide (φ ∈ l))) w := this
  rw [inT_eq (D.eqo_cmp (Fm.eqo h2 (by omega))) (D.eqo_cmp h.eqoT)] at e
  simp only [Bool.false_eq_true, if_false, Out.ok.injEq, D.bl.injEq, and_true] at e
  simp only [if_true, e]
/-- one side of is_weaker -/
theorem wk_comp {env : Fx.Env} {k : Nat} {fc : EF} {l l' : List Fm} (hl : Fs l) (hl' : Fs l') (hk : k < env.length) (hc : ∀ (d : D) w, fc (env.set k (some d)) ro w = .ok (fT l) w) (hw : wipeE env [k] = env) {it : Fx.Env → M (List D)} (hi : ∀ w, it env ro w = .ok (l'.map Fm.toD) w) : cComp (.nm k) [k] it (cTest (cBin (gInT true) (cVar k) fc)) (cVar k) kStill env ro w = .ok (fL (l'.filter fun φ => !decide (φ ∈ l))) w := by
  have hs : sizeLine = 16777216 := rfl
  have vk : ∀ (d : D) w, cVar k (env.set k (some d)) ro w = .ok d w := fun d w => by
    rw [x_var, List.getElem?_set_self hk]
    rfl
  have c := comp_filt (k := k) (env := env) (ro := ro) (w := w) (h := Fm.toD) (g := Fm.toD) (p := fun φ => !decide (φ ∈ l)) (ta := cTest (cBin (gInT true) (cVar k) fc)) (fa := cVar k) (l := l') (fun φ hφ => by
    have nn := ninFT (ro := ro) (w := w) hl (hl'.ht φ hφ) (hl'.ov φ hφ)
    have sm : see ro w φ.toD = φ.toD := see_fm
    have st : see ro w (fT l) = fT l := rfl
    rw [x_test, x_bin, vk, an_ok, hc, an_ok, sm, st, nn, an_ok, bool_bl]) (fun φ hφ _ => vk _ _)
  rw [x_comp, hi, an_ok, if_pos (by rw [List.length_map]; have := hl'.few; omega), hw, c, an_ok, x_still]
theorem e_weaker {l r l' r' : List Fm} (hl : Fs l) (hr : Fs r) (hl' : Fs l') (hr' : Fs r') : ev (n + 1) .f_is_weaker [sqD (l, r), sqD (l', r')] ro w = .ok (.bl (weaker l r l' r')) w := by
  rw [q_is_weaker, x_def]
  simp only [List.length_cons, List.length_nil, Nat.zero_add, Nat.reduceAdd, if_true, List.map_cons, List.map_nil, Nat.reduceSub, List.replicate, List.cons_append, List.nil_append, List.append_nil]
  unfold b_is_weaker
  have it : ∀ env w, cSeq (cTup (cArgs [cK (.int 0), cK (.int 1)])) env ro w = .ok [nD 0, nD 1] w := fun env w => rfl
  have st : ∀ (a b : D) w, see ro w (D.tup [a, b]) = .tup [a, b] := fun _ _ _ => rfl
  have i0 : ∀ (a b : D) w, gIx (.tup [a, b]) (nD 0) ro w = .ok a w := fun _ _ _ => rfl
  have i1 : ∀ (a b : D) w, gIx (.tup [a, b]) (nD 1) ro w = .ok b w := fun _ _ _ => rfl
  have si : ∀ (i : Nat) w, see ro w (nD i) = nD i := fun _ _ => rfl
  have c0 : ∀ w, cComp (.nm 3) [3] (cSeq (cBin gIx (cVar 1) (cVar 2))) (cTest (cBin (gInT true) (cVar 3) (cBin gIx (cVar 0) (cVar 2)))) (cVar 3) kStill [some (sqD (l, r)), some (sqD (l', r')), some (nD 0), none] ro w = .ok (fL (l'.filter fun φ => !decide (φ ∈ l))) w := fun w => by
    refine wk_comp hl hl' (by simp) (fun d w => ?_) rfl fun w => ?_
    · simp only [x_and, x_or, x_not, x_andT, x_orT, x_notT, x_tru, x_test, x_bin, x_un, x_tup, x_lst, x_call, x_call0, x_args, x_args0, x_var, x_k, x_one, x_nil, x_if, List.getElem?_cons_zero, List.getElem?_cons_succ, ofO_ss, an_ok, List.length_cons, List.length_nil, Nat.zero_add, Nat.reduceAdd, if_true, Bool.false_eq_true, if_false, see_int, see_str, see_bl, see_lst, see_tup, see_non, bool_bl, truth_bl, st_ok, oan_nx, oan_rt, oan_bk, oan_ct, fin_rt, fin_nx, tn_nx, tn_rt, tn_ct, tn_bk, andV_bl, orV_bl, notV_bl, List.set_cons_succ, List.set_cons_zero, Bool.not_true, Bool.not_false, Bool.true_and, add_int, sub_int, eq_int, ne_int, lt_int, le_int, gt_int, ge_int, int_int, int_bl, len_lst, len_tup, List.map_cons, List.map_nil, List.length_map, st, si, i0]
    · rw [x_seqI]
      simp only [x_and, x_or, x_not, x_andT, x_orT, x_notT, x_tru, x_test, x_bin, x_un, x_tup, x_lst, x_call, x_call0, x_args, x_args0, x_var, x_k, x_one, x_nil, x_if, List.getElem?_cons_zero, List.getElem?_cons_succ, ofO_ss, an_ok, List.length_cons, List.length_nil, Nat.zero_add, Nat.reduceAdd, if_true, Bool.false_eq_true, if_false, see_int, see_str, see_bl, see_lst, see_tup, see_non, bool_bl, truth_bl, st_ok, oan_nx, oan_rt, oan_bk, oan_ct, fin_rt, fin_nx, tn_nx, tn_rt, tn_ct, tn_bk, andV_bl, orV_bl, notV_bl, List.set_cons_succ, List.set_cons_zero, Bool.not_true, Bool.not_false, Bool.true_and, add_int, sub_int, eq_int, ne_int, lt_int, le_int, gt_int, ge_int, int_int, int_bl, len_lst, len_tup, List.map_cons, List.map_nil, List.length_map, st, si, i0]
      rfl
  have c1 : ∀ w, cComp (.nm 3) [3] (cSeq (cBin gIx (cVar 1) (cVar 2))) (cTest (cBin (gInT true) (cVar 3) (cBin gIx (cVar 0) (cVar 2)))) (cVar 3) kStill [some (sqD (l, r)), some (sqD (l', r')), some (nD 1), none] ro w = .ok (fL (r'.filter fun φ => !decide (φ ∈ r))) w := fun w => by
    refine wk_comp hr hr' (by simp) (fun d w => ?_) rfl fun w => ?_
    · simp only [x_and, x_or, x_not, x_andT, x_orT, x_notT, x_tru, x_test, x_bin, x_un, x_tup, x_lst, x_call, x_call0, x_args, x_args0, x_var, x_k, x_one, x_nil, x_if, List.getElem?_cons_zero, List.getElem?_cons_succ, ofO_ss, an_ok, List.length_cons, List.length_nil, Nat.zero_add, Nat.reduceAdd, if_true, Bool.false_eq_true, if_false, see_int, see_str, see_bl, see_lst, see_tup, see_non, bool_bl, truth_bl, st_ok, oan_nx, oan_rt, oan_bk, oan_ct, fin_rt, fin_nx, tn_nx, tn_rt, tn_ct, tn_bk, andV_bl, orV_bl, notV_bl, List.set_cons_succ, List.set_cons_zero, Bool.not_true, Bool.not_false, Bool.true_and, add_int, sub_int, eq_int, ne_int, lt_int, le_int, gt_int, ge_int, int_int, int_bl, len_lst, len_tup, List.map_cons, List.map_nil, List.length_map, st, si, i1]
    · rw [x_seqI]
      simp only [x_and, x_or, x_not, x_andT, x_orT, x_notT, x_tru, x_test, x_bin, x_un, x_tup, x_lst, x_call, x_call0, x_args, x_args0, x_var, x_k, x_one, x_nil, x_if, List.getElem?_cons_zero, List.getElem?_cons_succ, ofO_ss, an_ok, List.length_cons, List.length_nil, Nat.zero_add, Nat.reduceAdd, if_true, Bool.false_eq_true, if_false, see_int, see_str, see_bl, see_lst, see_tup, see_non, bool_bl, truth_bl, st_ok, oan_nx, oan_rt, oan_bk, oan_ct, fin_rt, fin_nx, tn_nx, tn_rt, tn_ct, tn_bk, andV_bl, orV_bl, notV_bl, List.set_cons_succ, List.set_cons_zero, Bool.not_true, Bool.not_false, Bool.true_and, add_int, sub_int, eq_int, ne_int, lt_int, le_int, gt_int, ge_int, int_int, int_bl, len_lst, len_tup, List.map_cons, List.map_nil, List.length_map, st, si, i1]
      rfl
  have n0 := fun w => filt_ne (ro := ro) (w := w) hl' fun φ => !decide (φ ∈ l)
  have n1 := fun w => filt_ne (ro := ro) (w := w) hr' fun φ => !decide (φ ∈ r)
  simp only [Bool.not_not] at n0 n1
  have sL : ∀ (l : List Fm) w, see ro w (fL l) = fL l := fun _ _ => rfl
  rw [x_seq, x_for, it, st_ok, for_nm]
  simp only [List.set_cons_succ, List.set_cons_zero]
  rw [x_ifS, x_test, x_bin, c0, an_ok]
  simp only [x_and, x_or, x_not, x_andT, x_orT, x_notT, x_tru, x_test, x_bin, x_un, x_tup, x_lst, x_call, x_call0, x_args, x_args0, x_var, x_k, x_one, x_nil, x_if, List.getElem?_cons_zero, List.getElem?_cons_succ, ofO_ss, an_ok, List.length_cons, List.length_nil, Nat.zero_add, Nat.reduceAdd, if_true, Bool.false_eq_true, if_false, see_int, see_str, see_bl, see_lst, see_tup, see_non, bool_bl, truth_bl, st_ok, oan_nx, oan_rt, oan_bk, oan_ct, fin_rt, fin_nx, tn_nx, tn_rt, tn_ct, tn_bk, andV_bl, orV_bl, notV_bl, List.set_cons_succ, List.set_cons_zero, Bool.not_true, Bool.not_false, Bool.true_and, add_int, sub_int, eq_int, ne_int, lt_int, le_int, gt_int, ge_int, int_int, int_bl, len_lst, len_tup, List.map_cons, List.map_nil, List.length_map, sL, n0]
  unfold weaker
  cases l'.all (fun φ => decide (φ ∈ l)) with
  | false =>
    simp only [Bool.not_false, if_true]
    rw [x_ret]
    rfl
  | true =>
    simp only [Bool.not_true, Bool.false_eq_true, if_false]
    rw [tn_nx, for_nm]
    simp only [List.set_cons_succ, List.set_cons_zero]
    rw [x_ifS, x_test, x_bin, c1, an_ok]
    simp only [x_and, x_or, x_not, x_andT, x_orT, x_notT, x_tru, x_test, x_bin, x_un, x_tup, x_lst, x_call, x_call0, x_args, x_args0, x_var, x_k, x_one, x_nil, x_if, List.getElem?_cons_zero, List.getElem?_cons_succ, ofO_ss, an_ok, List.length_cons, List.length_nil, Nat.zero_add, Nat.reduceAdd, if_true, Bool.false_eq_true, if_false, see_int, see_str, see_bl, see_lst, see_tup, see_non, bool_bl, truth_bl, st_ok, oan_nx, oan_rt, oan_bk, oan_ct, fin_rt, fin_nx, tn_nx, tn_rt, tn_ct, tn_bk, andV_bl, orV_bl, notV_bl, List.set_cons_succ, List.set_cons_zero, Bool.not_true, Bool.not_false, Bool.true_and, add_int, sub_int, eq_int, ne_int, lt_int, le_int, gt_int, ge_int, int_int, int_bl, len_lst, len_tup, List.map_cons, List.map_nil, List.length_map, sL, n1]
    cases r'.all (fun φ => decide (φ ∈ r)) with
    | false =>
      simp only [Bool.not_false, if_true]
      rw [x_ret]
      rfl
    | true =>
      simp only [Bool.not_true, Bool.false_eq_true, if_false]
      rw [tn_nx, for_nil, oan_nx, x_ret]
      rfl
end
/-- the premises are sorted sides -/
theorem ps_eqo {ps : PsL} (h : ∀ p ∈ ps, Fs p.1 ∧ Fs p.2) : (psD ps).eqo = true := by
  have f : ∀ p ∈ ps, (sqD p).nb = true ∧ (sqD p).lay = true ∧ (sqD p).dp ≤ 61 := fun p hp => by
    have e1 := (h p hp).1.facts (t := .tup) (.inr rfl)
    have e2 := (h p hp).2.facts (t := .tup) (.inr rfl)
    refine ⟨?_, ?_, ?_⟩
    · simp only [D.nb]
      refine nbs_iff.mpr fun d hd => ?_
      simp only [List.mem_cons, List.not_mem_nil, or_false] at hd
      rcases hd with rfl | rfl
      · exact e1.1
      · exact e2.1
    · simp only [D.lay]
      refine lays_iff.mpr fun d hd => ?_
      simp only [List.mem_cons, List.not_mem_nil, or_false] at hd
      rcases hd with rfl | rfl
      · exact e1.2.1
      · exact e2.2.1
    · simp only [D.dp]
      have : D.dps [fT p.1, fT p.2] ≤ 60 := dps_iff.mpr fun d hd => by
        simp only [List.mem_cons, List.not_mem_nil, or_false] at hd
        rcases hd with rfl | rfl
        · exact e1.2.2
        · exact e2.2.2
      omega
  refine eqo_of ?_ ?_ ?_
  · simp only [D.nb]
    exact nbs_iff.mpr fun d hd => by
      obtain ⟨p, hp, rfl⟩ := List.mem_map.mp hd
      exact (f p hp).1
  · simp only [D.lay]
    exact lays_iff.mpr fun d hd => by
      obtain ⟨p, hp, rfl⟩ := List.mem_map.mp hd
      exact (f p hp).2.1
  · simp only [D.dp]
    have : D.dps (ps.map sqD) ≤ 61 := dps_iff.mpr fun d hd => by
      obtain ⟨p, hp, rfl⟩ := List.mem_map.mp hd
      exact (f p hp).2.2
    omega
section
variable {n : Nat} {ro w : List D}
theorem psD_inj {p q : PsL} : psD p = psD q ↔ p = q := by
  constructor
  · intro h
    injection h with h
    refine (List.map_inj_right (fun a b e => ?_)).mp h
    injection e with e
    injection e with e1 e2
    injection e2 with e2 _
    exact Prod.ext (fT_inj.mp e1) (fT_inj.mp e2)
  · intro h
    rw [h]
/-- the steps' conclusions -/
structure AllS (S : List Stp) : Prop where
  good : ∀ s ∈ S, GoodS s
  few : S.length ≤ 1000
theorem sq_good {S : List Stp} (h : AllS S) (i : Int) : Fs (sqAt S i).1 ∧ Fs (sqAt S i).2 := by
  unfold sqAt
  cases e : S[i.toNat]? with
  | none => exact ⟨⟨by simp, by simp, by simp⟩, ⟨by simp, by simp, by simp⟩⟩
  | some t => exact ⟨(h.good t (List.mem_of_getElem? e)).sd.sl, (h.good t (List.mem_of_getElem? e)).sd.sr⟩
theorem sts_ix {S : List Stp} {i : Int} {s : Stp} (hi : 0 ≤ i) (hs : S[i.toNat]? = some s) : gIx (stsD S) (.int i) ro w = .ok (stpD s) w := by
  obtain ⟨j, rfl⟩ := Int.eq_ofNat_of_zero_le hi
  show gIx (.lst (S.map stpD)) (.int (j : Int)) ro w = _
  rw [ix_lst, atI_some (by rw [List.getElem?_map, show S[j]? = some s from hs]; rfl)]
  rfl
theorem e_conc (hn : 0 < n) {S : List Stp} {s : Stp} (hs : S.getLast? = some s) : ev n .f_conclusion_of [stsD S] ro w = .ok (sqD (s.l, s.r)) w := by
  obtain ⟨k, rfl⟩ : ∃ k, n = k + 1 := ⟨n - 1, by omega⟩
  rw [q_conclusion_of, x_def]
  simp only [List.length_cons, List.length_nil, Nat.zero_add, Nat.reduceAdd, if_true, List.map_cons, List.map_nil, Nat.reduceSub, List.replicate, List.cons_append, List.nil_append, List.append_nil]
  unfold b_conclusion_of
  have ng : ∀ w, gNeg (.int 1) ro w = .ok (.int (-1)) w := fun _ => rfl
  have st : ∀ w, see ro w (stsD S) = stsD S := fun _ => rfl
  have ss : ∀ w, see ro w (stpD s) = stpD s := fun _ => rfl
  have ne : S ≠ [] := fun h => by rw [h] at hs; cases hs
  have hp : 0 < S.length := List.length_pos_iff.mpr ne
  have ix : ∀ w, gIx (stsD S) (.int (-1)) ro w = .ok (stpD s) w := fun w => by
    show gIx (.lst (S.map stpD)) (.int (-1)) ro w = _
    rw [ix_lst]
    have : L2.atI (S.map stpD) (-1) = some (stpD s) := by
      have e : S[S.length - 1]? = some s := by rw [← List.getLast?_eq_getElem?]; exact hs
      unfold L2.atI
      have k : L2.ixN (S.map stpD).length (-1) = some (S.length - 1) := by
        rw [List.length_map]
        unfold L2.ixN
        simp
        omega
      rw [k]
      show (S.map stpD)[S.length - 1]? = _
      rw [List.getElem?_map, e]
      rfl
    rw [this]
    rfl
  have i1 : ∀ w, gIx (stpD s) (.int 1) ro w = .ok (sqD (s.l, s.r)) w := fun _ => rfl
  rw [x_ret]
  simp only [x_and, x_or, x_not, x_andT, x_orT, x_notT, x_tru, x_test, x_bin, x_un, x_tup, x_lst, x_call, x_call0, x_args, x_args0, x_var, x_k, x_one, x_nil, x_if, List.getElem?_cons_zero, List.getElem?_cons_succ, ofO_ss, an_ok, List.length_cons, List.length_nil, Nat.zero_add, Nat.reduceAdd, if_true, Bool.false_eq_true, if_false, see_int, see_str, see_bl, see_lst, see_tup, see_non, bool_bl, truth_bl, st_ok, oan_nx, oan_rt, oan_bk, oan_ct, fin_rt, fin_nx, tn_nx, tn_rt, tn_ct, tn_bk, andV_bl, orV_bl, notV_bl, List.set_cons_succ, List.set_cons_zero, Bool.not_true, Bool.not_false, Bool.true_and, add_int, sub_int, eq_int, ne_int, lt_int, le_int, gt_int, ge_int, int_int, int_bl, len_lst, len_tup, List.map_cons, List.map_nil, List.length_map, x_un, ng, st, ix, ss, i1]
end
section
variable {n : Nat} {ro w : List D}
abbrev rE (x : Str) (S : List Stp) (a : Nat) (s : Stp) (p : Option D) : Fx.Env := [some (.str x), some (stsD S), some (.int a), some (.str s.rule), some (sqD (s.l, s.r)), some (mD s.m), some (numD s.ns), p, none, none]
theorem r_nums {x : Str} {S : List Stp} {a : Nat} {s : Stp} (g : GoodS s) : cTest (cBin gNe (cComp (.nm 8) [8] (cSeq (cVar 6)) (cNotT (cTest (cChain gLe gLt (cK (.int 0)) (cVar 8) (cVar 2)))) (cVar 8) kStill) (cLst (cArgs []))) (rE x S a s none) ro w = .ok (!(s.ns.all fun i => decide (0 ≤ i) && decide (i < a))) w := by
  have hs : sizeLine = 16777216 := rfl
  have c := comp_filt (k := 8) (env := rE x S a s none) (ro := ro) (w := w) (h := D.int) (g := D.int) (p := fun i : Int => !(decide (0 ≤ i) && decide (i < (a : Int)))) (ta := cNotT (cTest (cChain gLe gLt (cK (.int 0)) (cVar 8) (cVar 2)))) (fa := cVar 8) (l := s.ns) (fun i hi => by
    simp only [x_and, x_or, x_not, x_andT, x_orT, x_notT, x_tru, x_test, x_bin, x_un, x_tup, x_lst, x_call, x_call0, x_args, x_args0, x_var, x_k, x_one, x_nil, x_if, List.getElem?_cons_zero, List.getElem?_cons_succ, ofO_ss, an_ok, List.length_cons, List.length_nil, Nat.zero_add, Nat.reduceAdd, if_true, Bool.false_eq_true, if_false, see_int, see_str, see_bl, see_lst, see_tup, see_non, bool_bl, truth_bl, st_ok, oan_nx, oan_rt, oan_bk, oan_ct, fin_rt, fin_nx, tn_nx, tn_rt, tn_ct, tn_bk, andV_bl, orV_bl, notV_bl, List.set_cons_succ, List.set_cons_zero, Bool.not_true, Bool.not_false, Bool.true_and, add_int, sub_int, eq_int, ne_int, lt_int, le_int, gt_int, ge_int, int_int, int_bl, len_lst, len_tup, List.map_cons, List.map_nil, List.length_map, x_chain]
    cases decide (0 ≤ i) with
    | false => rfl
    | true =>
      simp only [x_and, x_or, x_not, x_andT, x_orT, x_notT, x_tru, x_test, x_bin, x_un, x_tup, x_lst, x_call, x_call0, x_args, x_args0, x_var, x_k, x_one, x_nil, x_if, List.getElem?_cons_zero, List.getElem?_cons_succ, ofO_ss, an_ok, List.length_cons, List.length_nil, Nat.zero_add, Nat.reduceAdd, if_true, Bool.false_eq_true, if_false, see_int, see_str, see_bl, see_lst, see_tup, see_non, bool_bl, truth_bl, st_ok, oan_nx, oan_rt, oan_bk, oan_ct, fin_rt, fin_nx, tn_nx, tn_rt, tn_ct, tn_bk, andV_bl, orV_bl, notV_bl, List.set_cons_succ, List.set_cons_zero, Bool.not_true, Bool.not_false, Bool.true_and, add_int, sub_int, eq_int, ne_int, lt_int, le_int, gt_int, ge_int, int_int, int_bl, len_lst, len_tup, List.map_cons, List.map_nil, List.length_map]) (fun i hi _ => rfl)
  have it : cSeq (cVar 6) (rE x S a s none) ro w = .ok (s.ns.map D.int) w := rfl
  have ne : gNe (.lst ((s.ns.filter fun i : Int => !(decide (0 ≤ i) && decide (i < (a : Int)))).map D.int)) (.lst []) ro w = .ok (.bl (!(s.ns.all fun i => decide (0 ≤ i) && decide (i < a)))) w := by
    rw [ne_eqo eqo_ints (eqo_of rfl rfl (by decide))]
    congr 3
    rw [Bool.eq_iff_iff, decide_eq_true_eq, List.all_eq_true]
    constructor
    · intro e i hi
      injection e with e
      have := List.filter_eq_nil_iff.mp (List.map_eq_nil_iff.mp e) i hi
      simpa using this
    · intro e
      have : s.ns.filter (fun i : Int => !(decide (0 ≤ i) && decide (i < (a : Int)))) = [] := List.filter_eq_nil_iff.mpr fun i hi => by
        have := e i hi
        simpa using this
      rw [this]
      rfl
  have cc : cComp (.nm 8) [8] (cSeq (cVar 6)) (cNotT (cTest (cChain gLe gLt (cK (.int 0)) (cVar 8) (cVar 2)))) (cVar 8) kStill (rE x S a s none) ro w = .ok (.lst ((s.ns.filter fun i : Int => !(decide (0 ≤ i) && decide (i < (a : Int)))).map D.int)) w := by
    rw [x_comp, it, an_ok, if_pos (by rw [List.length_map]; have := g.few; omega), show wipeE (rE x S a s none) [8] = rE x S a s none from rfl, c, an_ok, x_still]
  have sL : ∀ (l : List D) w, see ro w (.lst l) = .lst l := fun _ _ => rfl
  rw [x_test, x_bin, cc, an_ok]
  simp only [x_and, x_or, x_not, x_andT, x_orT, x_notT, x_tru, x_test, x_bin, x_un, x_tup, x_lst, x_call, x_call0, x_args, x_args0, x_var, x_k, x_one, x_nil, x_if, List.getElem?_cons_zero, List.getElem?_cons_succ, ofO_ss, an_ok, List.length_cons, List.length_nil, Nat.zero_add, Nat.reduceAdd, if_true, Bool.false_eq_true, if_false, see_int, see_str, see_bl, see_lst, see_tup, see_non, bool_bl, truth_bl, st_ok, oan_nx, oan_rt, oan_bk, oan_ct, fin_rt, fin_nx, tn_nx, tn_rt, tn_ct, tn_bk, andV_bl, orV_bl, notV_bl, List.set_cons_succ, List.set_cons_zero, Bool.not_true, Bool.not_false, Bool.true_and, add_int, sub_int, eq_int, ne_int, lt_int, le_int, gt_int, ge_int, int_int, int_bl, len_lst, len_tup, List.map_cons, List.map_nil, List.length_map, sL, ne]
theorem r_plain {x : Str} {S : List Stp} {a : Nat} {s : Stp} {m : Nat} (hx : SOk x) (g : GoodS s) (hn : 6 < m) : cAndT (cTest (cBin gIn (cVar 0) (cK g_INTERMEDIATE))) (cTest (cBin gNe (cComp (.nm 9) [9] (cSeq (cBin gAdd (cBin gIx (cVar 4) (cK (.int 0))) (cBin gIx (cVar 4) (cK (.int 1))))) (cNotT (cTru (cCall (fun ds => if ds.length = 1 then ev m .f_is_plain ds else M.no) (cArgs [cVar 9])))) (cVar 9) kStill) (cLst (cArgs [])))) (rE x S a s none) ro w = .ok (memB interL x && !((s.l ++ s.r).all fun φ => decide (Fo.md φ = 0))) w := by
  have hs : sizeLine = 16777216 := rfl
  have ii : ∀ w, gIn (.str x) g_INTERMEDIATE ro w = .ok (.bl (memB interL x)) w := fun w => in_strs (l := interL)
  have sI : ∀ w, see ro w g_INTERMEDIATE = g_INTERMEDIATE := fun _ => rfl
  have ht : ∀ φ ∈ s.l ++ s.r, φ.ht ≤ 4 := fun φ hφ => (List.mem_append.mp hφ).elim (g.sd.sl.ht φ) (g.sd.sr.ht φ)
  have ov : ∀ φ ∈ s.l ++ s.r, φ.Over SOk := fun φ hφ => (List.mem_append.mp hφ).elim (g.sd.sl.ov φ) (g.sd.sr.ov φ)
  have c := comp_filt (k := 9) (env := rE x S a s none) (ro := ro) (w := w) (h := Fm.toD) (g := Fm.toD) (p := fun φ => !decide (Fo.md φ = 0)) (ta := cNotT (cTru (cCall (fun ds => if ds.length = 1 then ev m .f_is_plain ds else M.no) (cArgs [cVar 9])))) (fa := cVar 9) (l := s.l ++ s.r) (fun φ hφ => by
    have pl : ∀ w, ev m .f_is_plain [φ.toD] ro w = .ok (.bl (decide (Fo.md φ = 0))) w := fun w => e_plain (k := 4) (n := m) (by omega) φ ro w (ht φ hφ)
    have sm : ∀ w, see ro w φ.toD = φ.toD := fun _ => see_fm
    simp only [x_and, x_or, x_not, x_andT, x_orT, x_notT, x_tru, x_test, x_bin, x_un, x_tup, x_lst, x_call, x_call0, x_args, x_args0, x_var, x_k, x_one, x_nil, x_if, List.getElem?_cons_zero, List.getElem?_cons_succ, ofO_ss, an_ok, List.length_cons, List.length_nil, Nat.zero_add, Nat.reduceAdd, if_true, Bool.false_eq_true, if_false, see_int, see_str, see_bl, see_lst, see_tup, see_non, bool_bl, truth_bl, st_ok, oan_nx, oan_rt, oan_bk, oan_ct, fin_rt, fin_nx, tn_nx, tn_rt, tn_ct, tn_bk, andV_bl, orV_bl, notV_bl, List.set_cons_succ, List.set_cons_zero, Bool.not_true, Bool.not_false, Bool.true_and, add_int, sub_int, eq_int, ne_int, lt_int, le_int, gt_int, ge_int, int_int, int_bl, len_lst, len_tup, List.map_cons, List.map_nil, List.length_map, sm, pl]) (fun φ hφ _ => rfl)
  have st : ∀ (a b : D) w, see ro w (D.tup [a, b]) = .tup [a, b] := fun _ _ _ => rfl
  have i0 : ∀ (a b : D) w, gIx (.tup [a, b]) (.int 0) ro w = .ok a w := fun _ _ _ => rfl
  have i1 : ∀ (a b : D) w, gIx (.tup [a, b]) (.int 1) ro w = .ok b w := fun _ _ _ => rfl
  have sT : ∀ (l : List Fm) w, see ro w (fT l) = fT l := fun _ _ => rfl
  have ad : ∀ w, gAdd (fT s.l) (fT s.r) ro w = .ok (fT (s.l ++ s.r)) w := fun w => by
    have := g.sd.sl.few
    have := g.sd.sr.few
    show gAdd (.tup _) (.tup _) ro w = _
    rw [add_tup, if_pos (by rw [List.length_map, List.length_map]; omega), ← List.map_append]
  have it : cSeq (cBin gAdd (cBin gIx (cVar 4) (cK (.int 0))) (cBin gIx (cVar 4) (cK (.int 1)))) (rE x S a s none) ro w = .ok ((s.l ++ s.r).map Fm.toD) w := by
    rw [x_seqI]
    simp only [x_and, x_or, x_not, x_andT, x_orT, x_notT, x_tru, x_test, x_bin, x_un, x_tup, x_lst, x_call, x_call0, x_args, x_args0, x_var, x_k, x_one, x_nil, x_if, List.getElem?_cons_zero, List.getElem?_cons_succ, ofO_ss, an_ok, List.length_cons, List.length_nil, Nat.zero_add, Nat.reduceAdd, if_true, Bool.false_eq_true, if_false, see_int, see_str, see_bl, see_lst, see_tup, see_non, bool_bl, truth_bl, st_ok, oan_nx, oan_rt, oan_bk, oan_ct, fin_rt, fin_nx, tn_nx, tn_rt, tn_ct, tn_bk, andV_bl, orV_bl, notV_bl, List.set_cons_succ, List.set_cons_zero, Bool.not_true, Bool.not_false, Bool.true_and, add_int, sub_int, eq_int, ne_int, lt_int, le_int, gt_int, ge_int, int_int, int_bl, len_lst, len_tup, List.map_cons, List.map_nil, List.length_map, st, i0, i1, sT, ad]
    rfl
  have cc : cComp (.nm 9) [9] (cSeq (cBin gAdd (cBin gIx (cVar 4) (cK (.int 0))) (cBin gIx (cVar 4) (cK (.int 1))))) (cNotT (cTru (cCall (fun ds => if ds.length = 1 then ev m .f_is_plain ds else M.no) (cArgs [cVar 9])))) (cVar 9) kStill (rE x S a s none) ro w = .ok (fL ((s.l ++ s.r).filter fun φ => !decide (Fo.md φ = 0))) w := by
    rw [x_comp, it, an_ok, if_pos (by
      rw [List.length_map, List.length_append]
      have := g.sd.sl.few
      have := g.sd.sr.few
      omega), show wipeE (rE x S a s none) [9] = rE x S a s none from rfl, c, an_ok, x_still]
  have ne := filt_neG (ro := ro) (w := w) ht ov fun φ => !decide (Fo.md φ = 0)
  simp only [Bool.not_not] at ne
  have sL : ∀ (l : List Fm) w, see ro w (fL l) = fL l := fun _ _ => rfl
  have t1 : cTest (cBin gIn (cVar 0) (cK g_INTERMEDIATE)) (rE x S a s none) ro w = .ok (memB interL x) w := by
    simp only [x_and, x_or, x_not, x_andT, x_orT, x_notT, x_tru, x_test, x_bin, x_un, x_tup, x_lst, x_call, x_call0, x_args, x_args0, x_var, x_k, x_one, x_nil, x_if, List.getElem?_cons_zero, List.getElem?_cons_succ, ofO_ss, an_ok, List.length_cons, List.length_nil, Nat.zero_add, Nat.reduceAdd, if_true, Bool.false_eq_true, if_false, see_int, see_str, see_bl, see_lst, see_tup, see_non, bool_bl, truth_bl, st_ok, oan_nx, oan_rt, oan_bk, oan_ct, fin_rt, fin_nx, tn_nx, tn_rt, tn_ct, tn_bk, andV_bl, orV_bl, notV_bl, List.set_cons_succ, List.set_cons_zero, Bool.not_true, Bool.not_false, Bool.true_and, add_int, sub_int, eq_int, ne_int, lt_int, le_int, gt_int, ge_int, int_int, int_bl, len_lst, len_tup, List.map_cons, List.map_nil, List.length_map, sI, ii]
  have t2 : cTest (cBin gNe (cComp (.nm 9) [9] (cSeq (cBin gAdd (cBin gIx (cVar 4) (cK (.int 0))) (cBin gIx (cVar 4) (cK (.int 1))))) (cNotT (cTru (cCall (fun ds => if ds.length = 1 then ev m .f_is_plain ds else M.no) (cArgs [cVar 9])))) (cVar 9) kStill) (cLst (cArgs []))) (rE x S a s none) ro w = .ok (!((s.l ++ s.r).all fun φ => decide (Fo.md φ = 0))) w := by
    rw [x_test, x_bin, cc, an_ok]
    simp only [x_and, x_or, x_not, x_andT, x_orT, x_notT, x_tru, x_test, x_bin, x_un, x_tup, x_lst, x_call, x_call0, x_args, x_args0, x_var, x_k, x_one, x_nil, x_if, List.getElem?_cons_zero, List.getElem?_cons_succ, ofO_ss, an_ok, List.length_cons, List.length_nil, Nat.zero_add, Nat.reduceAdd, if_true, Bool.false_eq_true, if_false, see_int, see_str, see_bl, see_lst, see_tup, see_non, bool_bl, truth_bl, st_ok, oan_nx, oan_rt, oan_bk, oan_ct, fin_rt, fin_nx, tn_nx, tn_rt, tn_ct, tn_bk, andV_bl, orV_bl, notV_bl, List.set_cons_succ, List.set_cons_zero, Bool.not_true, Bool.not_false, Bool.true_and, add_int, sub_int, eq_int, ne_int, lt_int, le_int, gt_int, ge_int, int_int, int_bl, len_lst, len_tup, List.map_cons, List.map_nil, List.length_map, sL, ne]
  rw [x_andT, t1, an_ok]
  cases memB interL x with
  | false => rfl
  | true => exact t2
theorem r_prems {x : Str} {S : List Stp} {a : Nat} {s : Stp} (g : GoodS s) (hal : a < S.length) (hall : (s.ns.all fun i => decide (0 ≤ i) && decide (i < a)) = true) : cComp (.nm 8) [8] (cSeq (cVar 6)) (cYes) (cBin gIx (cBin gIx (cVar 1) (cVar 8)) (cK (.int 1))) kStill (rE x S a s none) ro w = .ok (psD (s.ns.map (sqAt S))) w := by
  have hs : sizeLine = 16777216 := rfl
  have st : ∀ w, see ro w (stsD S) = stsD S := fun _ => rfl
  have c := comp_all (k := 8) (env := rE x S a s none) (ro := ro) (w := w) (h := D.int) (g := fun i => sqD (sqAt S i)) (fa := cBin gIx (cBin gIx (cVar 1) (cVar 8)) (cK (.int 1))) (l := s.ns) (fun i hi => by
    have h1 := List.all_eq_true.mp hall i hi
    rw [Bool.and_eq_true, decide_eq_true_eq, decide_eq_true_eq] at h1
    have hl : i.toNat < S.length := by omega
    have e : S[i.toNat]? = some S[i.toNat] := List.getElem?_eq_getElem hl
    have ix := fun w => sts_ix (ro := ro) (w := w) h1.1 e
    have ss : ∀ w, see ro w (stpD S[i.toNat]) = stpD S[i.toNat] := fun _ => rfl
    have i1 : ∀ w, gIx (stpD S[i.toNat]) (.int 1) ro w = .ok (sqD (S[i.toNat].l, S[i.toNat].r)) w := fun _ => rfl
    have sq : sqAt S i = (S[i.toNat].l, S[i.toNat].r) := by unfold sqAt; rw [e]
    simp only [x_and, x_or, x_not, x_andT, x_orT, x_notT, x_tru, x_test, x_bin, x_un, x_tup, x_lst, x_call, x_call0, x_args, x_args0, x_var, x_k, x_one, x_nil, x_if, List.getElem?_cons_zero, List.getElem?_cons_succ, ofO_ss, an_ok, List.length_cons, List.length_nil, Nat.zero_add, Nat.reduceAdd, if_true, Bool.false_eq_true, if_false, see_int, see_str, see_bl, see_lst, see_tup, see_non, bool_bl, truth_bl, st_ok, oan_nx, oan_rt, oan_bk, oan_ct, fin_rt, fin_nx, tn_nx, tn_rt, tn_ct, tn_bk, andV_bl, orV_bl, notV_bl, List.set_cons_succ, List.set_cons_zero, Bool.not_true, Bool.not_false, Bool.true_and, add_int, sub_int, eq_int, ne_int, lt_int, le_int, gt_int, ge_int, int_int, int_bl, len_lst, len_tup, List.map_cons, List.map_nil, List.length_map, st, ix, ss, i1, sq])
  have it : cSeq (cVar 6) (rE x S a s none) ro w = .ok (s.ns.map D.int) w := rfl
  rw [x_comp, it, an_ok, if_pos (by rw [List.length_map]; have := g.few; omega), show wipeE (rE x S a s none) [8] = rE x S a s none from rfl, c, an_ok, x_still]
  show Out.ok (D.lst (s.ns.map fun i => sqD (sqAt S i))) w = Out.ok (.lst ((s.ns.map (sqAt S)).map sqD)) w
  rw [List.map_map]
  rfl
theorem e_right {x : Str} (hx : SOk x) {P : Stp → Option PsL} {S : List Stp} (hS : AllS S) {a : Nat} {s : Stp} (hs : S[a]? = some s) (hn : 8 < n)
    (hP : s.rule ≠ "weaken" → ∀ w, ev (n + 3) .f_premises_of [.str x, .str s.rule, sqD (s.l, s.r), mD s.m] ro w = rs (P s) w) (hPf : ∀ ps, P s = some ps → ∀ p ∈ ps, Fs p.1 ∧ Fs p.2) :
    ev (n + 4) .f_is_right [.str x, stsD S, .int a] ro w = .ok (.bl (right (memB interL x) P S a s)) w := by
  have g := hS.good s (List.mem_of_getElem? hs)
  have hal : a < S.length := by
    rcases Nat.lt_or_ge a S.length with h | h
    · exact h
    · rw [List.getElem?_eq_none h] at hs
      cases hs
  have st : ∀ w, see ro w (stsD S) = stsD S := fun _ => rfl
  have ixa := fun w => sts_ix (ro := ro) (w := w) (i := (a : Int)) (by omega) (show S[(a : Int).toNat]? = some s from hs)
  rw [q_is_right, x_def]
  simp only [List.length_cons, List.length_nil, Nat.zero_add, Nat.reduceAdd, if_true, List.map_cons, List.map_nil, Nat.reduceSub, List.replicate, List.cons_append, List.nil_append, List.append_nil]
  unfold b_is_right
  have as : sAsg (.tp [3, 4, 5, 6]) (cBin gIx (cVar 1) (cVar 2)) [some (.str x), some (stsD S), some (.int a), none, none, none, none, none, none, none] ro w = .go .nx (rE x S a s none) w := x_asg (d := stpD s) (w1 := w) (by simp only [x_and, x_or, x_not, x_andT, x_orT, x_notT, x_tru, x_test, x_bin, x_un, x_tup, x_lst, x_call, x_call0, x_args, x_args0, x_var, x_k, x_one, x_nil, x_if, List.getElem?_cons_zero, List.getElem?_cons_succ, ofO_ss, an_ok, List.length_cons, List.length_nil, Nat.zero_add, Nat.reduceAdd, if_true, Bool.false_eq_true, if_false, see_int, see_str, see_bl, see_lst, see_tup, see_non, bool_bl, truth_bl, st_ok, oan_nx, oan_rt, oan_bk, oan_ct, fin_rt, fin_nx, tn_nx, tn_rt, tn_ct, tn_bk, andV_bl, orV_bl, notV_bl, List.set_cons_succ, List.set_cons_zero, Bool.not_true, Bool.not_false, Bool.true_and, add_int, sub_int, eq_int, ne_int, lt_int, le_int, gt_int, ge_int, int_int, int_bl, len_lst, len_tup, List.map_cons, List.map_nil, List.length_map, st, ixa]) rfl
  have as' := as
  have n1 := r_nums (x := x) (S := S) (a := a) (ro := ro) (w := w) g
  have n2 := r_plain (x := x) (S := S) (a := a) (m := n + 3) (ro := ro) (w := w) hx g (by omega)
  rw [x_seq, as', oan_nx, x_seq, x_ifS, n1, st_ok]
  unfold right
  cases hall : (s.ns.all fun i => decide (0 ≤ i) && decide (i < a)) with
  | false =>
    simp only [Bool.not_false, if_true]
    rw [x_ret]
    rfl
  | true =>
    simp only [Bool.not_true, Bool.false_eq_true, if_false, Bool.true_eq_false]
    rw [x_nil, oan_nx, x_seq, x_ifS, n2, st_ok]
    by_cases hp : (memB interL x && !((s.l ++ s.r).all fun φ => decide (Fo.md φ = 0))) = true
    · rw [if_pos hp, if_pos hp, x_ret]
      rfl
    · rw [if_neg hp, if_neg hp, x_nil, oan_nx, x_seq, x_set, r_prems (x := x) (ro := ro) (w := w) g hal hall, st_ok, oan_nx]
      simp only [List.set_cons_succ, List.set_cons_zero]
      rw [x_seq, x_ifS]
      have eq := fun w => eq_str (ro := ro) (w := w) g.rule (ok_lit (a := "weaken"))
      simp only [x_and, x_or, x_not, x_andT, x_orT, x_notT, x_tru, x_test, x_bin, x_un, x_tup, x_lst, x_call, x_call0, x_args, x_args0, x_var, x_k, x_one, x_nil, x_if, List.getElem?_cons_zero, List.getElem?_cons_succ, ofO_ss, an_ok, List.length_cons, List.length_nil, Nat.zero_add, Nat.reduceAdd, if_true, Bool.false_eq_true, if_false, see_int, see_str, see_bl, see_lst, see_tup, see_non, bool_bl, truth_bl, st_ok, oan_nx, oan_rt, oan_bk, oan_ct, fin_rt, fin_nx, tn_nx, tn_rt, tn_ct, tn_bk, andV_bl, orV_bl, notV_bl, List.set_cons_succ, List.set_cons_zero, Bool.not_true, Bool.not_false, Bool.true_and, add_int, sub_int, eq_int, ne_int, lt_int, le_int, gt_int, ge_int, int_int, int_bl, len_lst, len_tup, List.map_cons, List.map_nil, List.length_map, eq]
      have sP : ∀ (ps : PsL) w, see ro w (psD ps) = psD ps := fun _ _ => rfl
      have pg : ∀ p ∈ s.ns.map (sqAt S), Fs p.1 ∧ Fs p.2 := fun p hp => by
        obtain ⟨i, _, rfl⟩ := List.mem_map.mp hp
        exact sq_good hS i
      by_cases hw : s.rule = "weaken"
      · rw [decide_eq_true hw, if_pos rfl, if_pos hw, x_ret, x_and]
        have sm : ∀ w, see ro w (mD s.m) = mD s.m := see_mD
        have isn : ∀ w, gIsN (mD s.m) .non ro w = .ok (.bl (decide (s.m = none))) w := fun w => by
          cases s.m with
          | none => rfl
          | some φ => cases φ <;> rfl
        simp only [x_and, x_or, x_not, x_andT, x_orT, x_notT, x_tru, x_test, x_bin, x_un, x_tup, x_lst, x_call, x_call0, x_args, x_args0, x_var, x_k, x_one, x_nil, x_if, List.getElem?_cons_zero, List.getElem?_cons_succ, ofO_ss, an_ok, List.length_cons, List.length_nil, Nat.zero_add, Nat.reduceAdd, if_true, Bool.false_eq_true, if_false, see_int, see_str, see_bl, see_lst, see_tup, see_non, bool_bl, truth_bl, st_ok, oan_nx, oan_rt, oan_bk, oan_ct, fin_rt, fin_nx, tn_nx, tn_rt, tn_ct, tn_bk, andV_bl, orV_bl, notV_bl, List.set_cons_succ, List.set_cons_zero, Bool.not_true, Bool.not_false, Bool.true_and, add_int, sub_int, eq_int, ne_int, lt_int, le_int, gt_int, ge_int, int_int, int_bl, len_lst, len_tup, List.map_cons, List.map_nil, List.length_map, sm, isn]
        cases decide (s.m = none) with
        | false => rfl
        | true =>
          rw [if_pos rfl]
          have ln : ∀ w, gLen (psD (s.ns.map (sqAt S))) ro w = .ok (.int ((s.ns.map (sqAt S)).length : Int)) w := fun w => by
            show gLen (.lst _) ro w = _
            rw [len_lst, List.length_map]
          simp only [x_and, x_or, x_not, x_andT, x_orT, x_notT, x_tru, x_test, x_bin, x_un, x_tup, x_lst, x_call, x_call0, x_args, x_args0, x_var, x_k, x_one, x_nil, x_if, List.getElem?_cons_zero, List.getElem?_cons_succ, ofO_ss, an_ok, List.length_cons, List.length_nil, Nat.zero_add, Nat.reduceAdd, if_true, Bool.false_eq_true, if_false, see_int, see_str, see_bl, see_lst, see_tup, see_non, bool_bl, truth_bl, st_ok, oan_nx, oan_rt, oan_bk, oan_ct, fin_rt, fin_nx, tn_nx, tn_rt, tn_ct, tn_bk, andV_bl, orV_bl, notV_bl, List.set_cons_succ, List.set_cons_zero, Bool.not_true, Bool.not_false, Bool.true_and, add_int, sub_int, eq_int, ne_int, lt_int, le_int, gt_int, ge_int, int_int, int_bl, len_lst, len_tup, List.map_cons, List.map_nil, List.length_map, x_one, sP, ln]
          rcases hl : s.ns with _ | ⟨i, _ | ⟨j, r⟩⟩
          · rfl
          · have i0 : ∀ w, gIx (.lst [sqD (sqAt S i)]) (.int 0) ro w = .ok (sqD (sqAt S i)) w := fun _ => rfl
            have d1 : decide (((1 : Nat) : Int) = 1) = true := rfl
            have wk := fun w => e_weaker (n := n + 2) (ro := ro) (w := w) g.sd.sl g.sd.sr (sq_good hS i).1 (sq_good hS i).2
            simp only [x_and, x_or, x_not, x_andT, x_orT, x_notT, x_tru, x_test, x_bin, x_un, x_tup, x_lst, x_call, x_call0, x_args, x_args0, x_var, x_k, x_one, x_nil, x_if, List.getElem?_cons_zero, List.getElem?_cons_succ, ofO_ss, an_ok, List.length_cons, List.length_nil, Nat.zero_add, Nat.reduceAdd, if_true, Bool.false_eq_true, if_false, see_int, see_str, see_bl, see_lst, see_tup, see_non, bool_bl, truth_bl, st_ok, oan_nx, oan_rt, oan_bk, oan_ct, fin_rt, fin_nx, tn_nx, tn_rt, tn_ct, tn_bk, andV_bl, orV_bl, notV_bl, List.set_cons_succ, List.set_cons_zero, Bool.not_true, Bool.not_false, Bool.true_and, add_int, sub_int, eq_int, ne_int, lt_int, le_int, gt_int, ge_int, int_int, int_bl, len_lst, len_tup, List.map_cons, List.map_nil, List.length_map, d1, sP, i0, wk]
            rfl
          · have e1 : decide (((i :: j :: r).map (sqAt S)).length = 1) = false := by simp
            have e2 : decide ((((i :: j :: r).map (sqAt S)).length : Int) = 1) = false := by simp; omega
            simp only [x_and, x_or, x_not, x_andT, x_orT, x_notT, x_tru, x_test, x_bin, x_un, x_tup, x_lst, x_call, x_call0, x_args, x_args0, x_var, x_k, x_one, x_nil, x_if, List.getElem?_cons_zero, List.getElem?_cons_succ, ofO_ss, an_ok, List.length_cons, List.length_nil, Nat.zero_add, Nat.reduceAdd, if_true, Bool.false_eq_true, if_false, see_int, see_str, see_bl, see_lst, see_tup, see_non, bool_bl, truth_bl, st_ok, oan_nx, oan_rt, oan_bk, oan_ct, fin_rt, fin_nx, tn_nx, tn_rt, tn_ct, tn_bk, andV_bl, orV_bl, notV_bl, List.set_cons_succ, List.set_cons_zero, Bool.not_true, Bool.not_false, Bool.true_and, add_int, sub_int, eq_int, ne_int, lt_int, le_int, gt_int, ge_int, int_int, int_bl, len_lst, len_tup, List.map_cons, List.map_nil, List.length_map, e1, e2]
            rfl
      · rw [decide_eq_false hw, if_neg hw]
        simp only [Bool.false_eq_true, if_false]
        have pr := hP hw
        have sm : ∀ w, see ro w (mD s.m) = mD s.m := see_mD
        have sT : ∀ (a b : D) w, see ro w (D.tup [a, b]) = .tup [a, b] := fun _ _ _ => rfl
        cases hq : P s with
        | none =>
          rw [hq] at pr
          unfold rs at pr
          have bd : sRet (cBin gEq (cCall (fun ds => if ds.length = 4 then ev (n + 3) .f_premises_of ds else M.no) (cArgs [cVar 0, cVar 3, cVar 4, cVar 5])) (cVar 7)) (rE x S a s (some (psD (s.ns.map (sqAt S))))) ro w = .exn "NoFit" [] [] (rE x S a s (some (psD (s.ns.map (sqAt S))))) w := by
            rw [x_ret]
            simp only [x_and, x_or, x_not, x_andT, x_orT, x_notT, x_tru, x_test, x_bin, x_un, x_tup, x_lst, x_call, x_call0, x_args, x_args0, x_var, x_k, x_one, x_nil, x_if, List.getElem?_cons_zero, List.getElem?_cons_succ, ofO_ss, an_ok, List.length_cons, List.length_nil, Nat.zero_add, Nat.reduceAdd, if_true, Bool.false_eq_true, if_false, see_int, see_str, see_bl, see_lst, see_tup, see_non, bool_bl, truth_bl, st_ok, oan_nx, oan_rt, oan_bk, oan_ct, fin_rt, fin_nx, tn_nx, tn_rt, tn_ct, tn_bk, andV_bl, orV_bl, notV_bl, List.set_cons_succ, List.set_cons_zero, Bool.not_true, Bool.not_false, Bool.true_and, add_int, sub_int, eq_int, ne_int, lt_int, le_int, gt_int, ge_int, int_int, int_bl, len_lst, len_tup, List.map_cons, List.map_nil, List.length_map, pr]
            rfl
          rw [oan_nx]
          unfold sTryM
          rw [bd]
          rfl
        | some ps =>
          rw [hq] at pr
          unfold rs at pr
          have e : ∀ w, gEq (psD ps) (psD (s.ns.map (sqAt S))) ro w = .ok (.bl (decide (some ps = some (s.ns.map (sqAt S))))) w := fun w => by
            rw [eq_eqo (ps_eqo (hPf ps hq)) (ps_eqo pg)]
            congr 2
            exact decide_eq_decide.mpr (psD_inj.trans (by simp))
          have bd : sRet (cBin gEq (cCall (fun ds => if ds.length = 4 then ev (n + 3) .f_premises_of ds else M.no) (cArgs [cVar 0, cVar 3, cVar 4, cVar 5])) (cVar 7)) (rE x S a s (some (psD (s.ns.map (sqAt S))))) ro w = .go (.rt (.bl (decide (some ps = some (s.ns.map (sqAt S)))))) (rE x S a s (some (psD (s.ns.map (sqAt S))))) w := by
            rw [x_ret]
            simp only [x_and, x_or, x_not, x_andT, x_orT, x_notT, x_tru, x_test, x_bin, x_un, x_tup, x_lst, x_call, x_call0, x_args, x_args0, x_var, x_k, x_one, x_nil, x_if, List.getElem?_cons_zero, List.getElem?_cons_succ, ofO_ss, an_ok, List.length_cons, List.length_nil, Nat.zero_add, Nat.reduceAdd, if_true, Bool.false_eq_true, if_false, see_int, see_str, see_bl, see_lst, see_tup, see_non, bool_bl, truth_bl, st_ok, oan_nx, oan_rt, oan_bk, oan_ct, fin_rt, fin_nx, tn_nx, tn_rt, tn_ct, tn_bk, andV_bl, orV_bl, notV_bl, List.set_cons_succ, List.set_cons_zero, Bool.not_true, Bool.not_false, Bool.true_and, add_int, sub_int, eq_int, ne_int, lt_int, le_int, gt_int, ge_int, int_int, int_bl, len_lst, len_tup, List.map_cons, List.map_nil, List.length_map, pr, sP, e]
          rw [oan_nx]
          unfold sTryM
          rw [bd]
          rfl
end
section
variable {n : Nat} {ro w : List D} {l r : List Fm} {m : Option Fm} {x z : Str} {mo cl : Bool}
theorem e_req {n : Nat} (h : 0 < n) : ReqSpec (ev n .f_require_logic) := by
  obtain ⟨m, rfl⟩ : ∃ m, n = m + 1 := ⟨n - 1, by omega⟩
  exact require_ok
end
section
variable {n : Nat} {ro w : List D}
structure PremH (n : Nat) (x : Str) (P : Stp → Option PsL) (S : List Stp) : Prop where
  run : ∀ s ∈ S, s.rule ≠ "weaken" → ∀ ro w, ev n .f_premises_of [.str x, .str s.rule, sqD (s.l, s.r), mD s.m] ro w = rs (P s) w
  fs : ∀ s ∈ S, ∀ ps, P s = some ps → ∀ p ∈ ps, Fs p.1 ∧ Fs p.2
def rightAt (it : Bool) (P : Stp → Option PsL) (S : List Stp) (a : Nat) : Bool := match S[a]? with
  | some s => right it P S a s
  | none => false
def firstW (f : Nat → Bool) : List Nat → Int
  | [] => -1
  | a :: l => if f a = true then firstW f l else a
theorem firstW_lt {f : Nat → Bool} : ∀ {l : List Nat}, firstW f l < 0 ↔ ∀ a ∈ l, f a = true
  | [] => by simp [firstW]
  | a :: l => by
    unfold firstW
    by_cases c : f a = true
    · rw [if_pos c, firstW_lt]
      simp [c]
    · rw [if_neg c]
      simp [c]
theorem first_loop {x : Str} (hx : SOk x) {P : Stp → Option PsL} {S : List Stp} (hS : AllS S) (hn : 8 < n) (hP : PremH (n + 3) x P S) : ∀ (l : List Nat) (o : Option D), (∀ a ∈ l, a < S.length) → ∃ env', forL (.nm 2) (sIf (cNotT (cTru (cCall (fun ds => if ds.length = 3 then ev (n + 4) .f_is_right ds else M.no) (cArgs [cVar 0, cVar 1, cVar 2])))) (sRet (cVar 2)) (sNil)) (l.map nD) [some (.str x), some (stsD S), o] ro w =
    if (∀ a ∈ l, rightAt (memB interL x) P S a = true) then .go .nx [some (.str x), some (stsD S), env'] w else .go (.rt (.int (firstW (rightAt (memB interL x) P S) l))) [some (.str x), some (stsD S), env'] w
  | [], o, _ => ⟨o, by simp⟩
  | a :: l, o, hl => by
    have hal := hl a (by simp)
    have ha : S[a]? = some S[a] := List.getElem?_eq_getElem hal
    have r := e_right (n := n) (ro := ro) (w := w) hx hS ha hn (fun h => fun w => hP.run _ (List.getElem_mem hal) h ro w) (hP.fs _ (List.getElem_mem hal))
    have e : rightAt (memB interL x) P S a = right (memB interL x) P S a S[a] := by unfold rightAt; rw [ha]
    rw [← e] at r
    have cc : cNotT (cTru (cCall (fun ds => if ds.length = 3 then ev (n + 4) .f_is_right ds else M.no) (cArgs [cVar 0, cVar 1, cVar 2]))) [some (.str x), some (stsD S), some (nD a)] ro w = .ok (!rightAt (memB interL x) P S a) w := by
      simp only [x_and, x_or, x_not, x_andT, x_orT, x_notT, x_tru, x_test, x_bin, x_un, x_tup, x_lst, x_call, x_call0, x_args, x_args0, x_var, x_k, x_one, x_nil, x_if, List.getElem?_cons_zero, List.getElem?_cons_succ, ofO_ss, an_ok, List.length_cons, List.length_nil, Nat.zero_add, Nat.reduceAdd, if_true, Bool.false_eq_true, if_false, see_int, see_str, see_bl, see_lst, see_tup, see_non, bool_bl, truth_bl, st_ok, oan_nx, oan_rt, oan_bk, oan_ct, fin_rt, fin_nx, tn_nx, tn_rt, tn_ct, tn_bk, andV_bl, orV_bl, notV_bl, List.set_cons_succ, List.set_cons_zero, Bool.not_true, Bool.not_false, Bool.true_and, add_int, sub_int, eq_int, ne_int, lt_int, le_int, gt_int, ge_int, int_int, int_bl, len_lst, len_tup, List.map_cons, List.map_nil, List.length_map, r]
    obtain ⟨o', ih⟩ := first_loop hx hS hn hP l (some (nD a)) fun b hb => hl b (List.mem_cons_of_mem _ hb)
    rw [List.map_cons, for_nm]
    simp only [List.set_cons_succ, List.set_cons_zero]
    rw [x_ifS, cc, st_ok]
    cases c : rightAt (memB interL x) P S a with
    | true =>
      refine ⟨o', ?_⟩
      simp only [Bool.not_true, Bool.false_eq_true, if_false]
      rw [x_nil, tn_nx, ih]
      by_cases d : ∀ b ∈ l, rightAt (memB interL x) P S b = true
      · rw [if_pos d, if_pos (fun b hb => (List.mem_cons.mp hb).elim (fun h => h ▸ c) (d b))]
      · rw [if_neg d, if_neg (fun h => d fun b hb => h b (List.mem_cons_of_mem _ hb))]
        unfold firstW
        rw [if_pos c]
        conv => rhs; rw [firstW.eq_def]
    | false =>
      refine ⟨some (nD a), ?_⟩
      simp only [Bool.not_false, if_true]
      rw [if_neg (fun h => by have := h a (by simp); rw [c] at this; cases this), x_ret]
      unfold firstW
      rw [if_neg (by rw [c]; simp)]
      rfl
theorem e_first {x : Str} (hx : SOk x) (hm : memB nameL x = true) {P : Stp → Option PsL} {S : List Stp} (hS : AllS S) (hn : 8 < n) (hP : PremH (n + 3) x P S) : ev (n + 5) .f_first_wrong [.str x, stsD S] ro w = .ok (.int (firstW (rightAt (memB interL x) P S) (List.range S.length))) w := by
  rw [q_first_wrong, x_def]
  simp only [List.length_cons, List.length_nil, Nat.zero_add, Nat.reduceAdd, if_true, List.map_cons, List.map_nil, Nat.reduceSub, List.replicate, List.cons_append, List.nil_append, List.append_nil]
  unfold b_first_wrong
  have rl := fun w => e_req (n := n + 4) (by omega) x ro w
  simp only [hm, if_true] at rl
  have st : ∀ w, see ro w (stsD S) = stsD S := fun _ => rfl
  have ln : ∀ w, gLen (stsD S) ro w = .ok (.int (S.length : Int)) w := fun w => by
    show gLen (.lst _) ro w = _
    rw [len_lst, List.length_map]
  have rg : cRng1 (cArgs [cCall (one gLen) (cArgs [cVar 1])]) [some (.str x), some (stsD S), none] ro w = .ok ((List.range S.length).map nD) w := by
    rw [x_rng1]
    simp only [x_and, x_or, x_not, x_andT, x_orT, x_notT, x_tru, x_test, x_bin, x_un, x_tup, x_lst, x_call, x_call0, x_args, x_args0, x_var, x_k, x_one, x_nil, x_if, List.getElem?_cons_zero, List.getElem?_cons_succ, ofO_ss, an_ok, List.length_cons, List.length_nil, Nat.zero_add, Nat.reduceAdd, if_true, Bool.false_eq_true, if_false, see_int, see_str, see_bl, see_lst, see_tup, see_non, bool_bl, truth_bl, st_ok, oan_nx, oan_rt, oan_bk, oan_ct, fin_rt, fin_nx, tn_nx, tn_rt, tn_ct, tn_bk, andV_bl, orV_bl, notV_bl, List.set_cons_succ, List.set_cons_zero, Bool.not_true, Bool.not_false, Bool.true_and, add_int, sub_int, eq_int, ne_int, lt_int, le_int, gt_int, ge_int, int_int, int_bl, len_lst, len_tup, List.map_cons, List.map_nil, List.length_map, x_one, st, ln]
    exact (rng1_nat (by have := hS.few; omega)).trans (by rw [rngD_nat])
  rw [x_seq]
  simp only [x_and, x_or, x_not, x_andT, x_orT, x_notT, x_tru, x_test, x_bin, x_un, x_tup, x_lst, x_call, x_call0, x_args, x_args0, x_var, x_k, x_one, x_nil, x_if, List.getElem?_cons_zero, List.getElem?_cons_succ, ofO_ss, an_ok, List.length_cons, List.length_nil, Nat.zero_add, Nat.reduceAdd, if_true, Bool.false_eq_true, if_false, see_int, see_str, see_bl, see_lst, see_tup, see_non, bool_bl, truth_bl, st_ok, oan_nx, oan_rt, oan_bk, oan_ct, fin_rt, fin_nx, tn_nx, tn_rt, tn_ct, tn_bk, andV_bl, orV_bl, notV_bl, List.set_cons_succ, List.set_cons_zero, Bool.not_true, Bool.not_false, Bool.true_and, add_int, sub_int, eq_int, ne_int, lt_int, le_int, gt_int, ge_int, int_int, int_bl, len_lst, len_tup, List.map_cons, List.map_nil, List.length_map, x_expr, rl]
  obtain ⟨o, k⟩ := first_loop (ro := ro) (w := w) hx hS hn hP (List.range S.length) none fun a ha => List.mem_range.mp ha
  have k' := k
  rw [x_seq, x_for, rg, st_ok, k']
  by_cases d : ∀ a ∈ List.range S.length, rightAt (memB interL x) P S a = true
  · rw [if_pos d, oan_nx, x_ret]
    have ng : ∀ w, gNeg (.int 1) ro w = .ok (.int (-1)) w := fun _ => rfl
    simp only [x_and, x_or, x_not, x_andT, x_orT, x_notT, x_tru, x_test, x_bin, x_un, x_tup, x_lst, x_call, x_call0, x_args, x_args0, x_var, x_k, x_one, x_nil, x_if, List.getElem?_cons_zero, List.getElem?_cons_succ, ofO_ss, an_ok, List.length_cons, List.length_nil, Nat.zero_add, Nat.reduceAdd, if_true, Bool.false_eq_true, if_false, see_int, see_str, see_bl, see_lst, see_tup, see_non, bool_bl, truth_bl, st_ok, oan_nx, oan_rt, oan_bk, oan_ct, fin_rt, fin_nx, tn_nx, tn_rt, tn_ct, tn_bk, andV_bl, orV_bl, notV_bl, List.set_cons_succ, List.set_cons_zero, Bool.not_true, Bool.not_false, Bool.true_and, add_int, sub_int, eq_int, ne_int, lt_int, le_int, gt_int, ge_int, int_int, int_bl, len_lst, len_tup, List.map_cons, List.map_nil, List.length_map, ng]
    have : ∀ l : List Nat, (∀ a ∈ l, rightAt (memB interL x) P S a = true) → firstW (rightAt (memB interL x) P S) l = -1 := fun l => by
      induction l with
      | nil => intro _; rfl
      | cons a l ih =>
        intro h
        unfold firstW
        rw [if_pos (h a (by simp))]
        exact ih fun b hb => h b (List.mem_cons_of_mem _ hb)
    rw [this _ d]
  · rw [if_neg d, oan_rt, fin_rt]
theorem e_deriv {x : Str} (hx : SOk x) (hm : memB nameL x = true) {P : Stp → Option PsL} {S : List Stp} (hS : AllS S) (hn : 8 < n) (hP : PremH (n + 3) x P S) : ev (n + 6) .f_is_derivation [.str x, stsD S] ro w = .ok (.bl ((List.range S.length).all (rightAt (memB interL x) P S) && decide (S ≠ []))) w := by
  have fw := fun w => e_first (ro := ro) (w := w) hx hm hS hn hP
  have st : ∀ w, see ro w (stsD S) = stsD S := fun _ => rfl
  have ln : ∀ w, gLen (stsD S) ro w = .ok (.int (S.length : Int)) w := fun w => by
    show gLen (.lst _) ro w = _
    rw [len_lst, List.length_map]
  have e1 : decide (firstW (rightAt (memB interL x) P S) (List.range S.length) < 0) = (List.range S.length).all (rightAt (memB interL x) P S) := by
    rw [Bool.eq_iff_iff, decide_eq_true_eq, firstW_lt, List.all_eq_true]
  have e2 : decide ((0 : Int) < (S.length : Int)) = decide (S ≠ []) := by
    cases S with
    | nil => rfl
    | cons s S => simp
  rw [q_is_derivation, x_def]
  simp only [List.length_cons, List.length_nil, Nat.zero_add, Nat.reduceAdd, if_true, List.map_cons, List.map_nil, Nat.reduceSub, List.replicate, List.cons_append, List.nil_append, List.append_nil]
  unfold b_is_derivation
  rw [x_ret]
  simp only [x_and, x_or, x_not, x_andT, x_orT, x_notT, x_tru, x_test, x_bin, x_un, x_tup, x_lst, x_call, x_call0, x_args, x_args0, x_var, x_k, x_one, x_nil, x_if, List.getElem?_cons_zero, List.getElem?_cons_succ, ofO_ss, an_ok, List.length_cons, List.length_nil, Nat.zero_add, Nat.reduceAdd, if_true, Bool.false_eq_true, if_false, see_int, see_str, see_bl, see_lst, see_tup, see_non, bool_bl, truth_bl, st_ok, oan_nx, oan_rt, oan_bk, oan_ct, fin_rt, fin_nx, tn_nx, tn_rt, tn_ct, tn_bk, andV_bl, orV_bl, notV_bl, List.set_cons_succ, List.set_cons_zero, Bool.not_true, Bool.not_false, Bool.true_and, add_int, sub_int, eq_int, ne_int, lt_int, le_int, gt_int, ge_int, int_int, int_bl, len_lst, len_tup, List.map_cons, List.map_nil, List.length_map, x_chain, fw, e1]
  cases (List.range S.length).all (rightAt (memB interL x) P S) with
  | false => rfl
  | true =>
    simp only [x_and, x_or, x_not, x_andT, x_orT, x_notT, x_tru, x_test, x_bin, x_un, x_tup, x_lst, x_call, x_call0, x_args, x_args0, x_var, x_k, x_one, x_nil, x_if, List.getElem?_cons_zero, List.getElem?_cons_succ, ofO_ss, an_ok, List.length_cons, List.length_nil, Nat.zero_add, Nat.reduceAdd, if_true, Bool.false_eq_true, if_false, see_int, see_str, see_bl, see_lst, see_tup, see_non, bool_bl, truth_bl, st_ok, oan_nx, oan_rt, oan_bk, oan_ct, fin_rt, fin_nx, tn_nx, tn_rt, tn_ct, tn_bk, andV_bl, orV_bl, notV_bl, List.set_cons_succ, List.set_cons_zero, Bool.not_true, Bool.not_false, Bool.true_and, add_int, sub_int, eq_int, ne_int, lt_int, le_int, gt_int, ge_int, int_int, int_bl, len_lst, len_tup, List.map_cons, List.map_nil, List.length_map, x_one, st, ln, e2]
theorem e_derives {x : Str} (hx : SOk x) (hm : memB nameL x = true) {P : Stp → Option PsL} {S : List Stp} (hS : AllS S) (hn : 8 < n) (hP : PremH (n + 3) x P S) {l r : List Fm} (hl : Fs l) (hr : Fs r) : ev (n + 7) .f_derives [.str x, stsD S, sqD (l, r)] ro w = .ok (.bl ((List.range S.length).all (rightAt (memB interL x) P S) && (match S.getLast? with | some s => decide ((s.l, s.r) = (l, r)) | none => false))) w := by
  have dv := fun w => e_deriv (ro := ro) (w := w) hx hm hS hn hP
  have st : ∀ w, see ro w (stsD S) = stsD S := fun _ => rfl
  have sq : ∀ (p : List Fm × List Fm) w, see ro w (sqD p) = sqD p := fun _ _ => rfl
  rw [q_derives, x_def]
  simp only [List.length_cons, List.length_nil, Nat.zero_add, Nat.reduceAdd, if_true, List.map_cons, List.map_nil, Nat.reduceSub, List.replicate, List.cons_append, List.nil_append, List.append_nil]
  unfold b_derives
  rw [x_ret, x_and]
  simp only [x_and, x_or, x_not, x_andT, x_orT, x_notT, x_tru, x_test, x_bin, x_un, x_tup, x_lst, x_call, x_call0, x_args, x_args0, x_var, x_k, x_one, x_nil, x_if, List.getElem?_cons_zero, List.getElem?_cons_succ, ofO_ss, an_ok, List.length_cons, List.length_nil, Nat.zero_add, Nat.reduceAdd, if_true, Bool.false_eq_true, if_false, see_int, see_str, see_bl, see_lst, see_tup, see_non, bool_bl, truth_bl, st_ok, oan_nx, oan_rt, oan_bk, oan_ct, fin_rt, fin_nx, tn_nx, tn_rt, tn_ct, tn_bk, andV_bl, orV_bl, notV_bl, List.set_cons_succ, List.set_cons_zero, Bool.not_true, Bool.not_false, Bool.true_and, add_int, sub_int, eq_int, ne_int, lt_int, le_int, gt_int, ge_int, int_int, int_bl, len_lst, len_tup, List.map_cons, List.map_nil, List.length_map, st, dv]
  cases hA : (List.range S.length).all (rightAt (memB interL x) P S) with
  | false => rfl
  | true =>
    cases hl' : S.getLast? with
    | none =>
      have : S = [] := List.getLast?_eq_none_iff.mp hl'
      subst this
      rfl
    | some s =>
      have ne : S ≠ [] := fun h => by rw [h] at hl'; cases hl'
      have cn := fun w => e_conc (n := n + 6) (ro := ro) (w := w) (by omega) hl'
      have g := hS.good s (List.mem_of_getLast? hl')
      have eq : ∀ w, gEq (sqD (s.l, s.r)) (sqD (l, r)) ro w = .ok (.bl (decide ((s.l, s.r) = (l, r)))) w := fun w => by
        have e1 := two_eqo (t := .tup) (.inr rfl) (g.sd.sl.facts (t := .tup) (.inr rfl)) (g.sd.sr.facts (t := .tup) (.inr rfl))
        have e2 := two_eqo (t := .tup) (.inr rfl) (hl.facts (t := .tup) (.inr rfl)) (hr.facts (t := .tup) (.inr rfl))
        show gEq (.tup [.tup _, .tup _]) (.tup [.tup _, .tup _]) ro w = _
        rw [eq_eqo e1 e2]
        congr 2
        refine decide_eq_decide.mpr ⟨fun h => ?_, fun h => ?_⟩
        · injection h with h
          injection h with h1 h2
          injection h2 with h2 _
          exact Prod.ext (fT_inj.mp h1) (fT_inj.mp h2)
        · injection h with h1 h2
          rw [h1, h2]
      rw [decide_eq_true ne]
      simp only [x_and, x_or, x_not, x_andT, x_orT, x_notT, x_tru, x_test, x_bin, x_un, x_tup, x_lst, x_call, x_call0, x_args, x_args0, x_var, x_k, x_one, x_nil, x_if, List.getElem?_cons_zero, List.getElem?_cons_succ, ofO_ss, an_ok, List.length_cons, List.length_nil, Nat.zero_add, Nat.reduceAdd, if_true, Bool.false_eq_true, if_false, see_int, see_str, see_bl, see_lst, see_tup, see_non, bool_bl, truth_bl, st_ok, oan_nx, oan_rt, oan_bk, oan_ct, fin_rt, fin_nx, tn_nx, tn_rt, tn_ct, tn_bk, andV_bl, orV_bl, notV_bl, List.set_cons_succ, List.set_cons_zero, Bool.not_true, Bool.not_false, Bool.true_and, add_int, sub_int, eq_int, ne_int, lt_int, le_int, gt_int, ge_int, int_int, int_bl, len_lst, len_tup, List.map_cons, List.map_nil, List.length_map, Bool.and_self, st, sq, cn, eq]
end
section
variable {n : Nat} {ro w : List D} {l r : List Fm} {m : Option Fm} {x z : Str} {mo cl : Bool}
abbrev allD : D := .tup [.str "K", .str "D", .str "T", .str "K4", .str "D4", .str "S4", .str "S5", .str "GL", .str "Grz", .str "Int", .str "KC", .str "LC", .str "BD2", .str "HT", .str "Cl"]
abbrev tabT (n : Nat) : Tab := [("axiom", 4, ev n .f_axiom), ("cut", 4, ev n .f_cut)]
theorem e_has {f : Fn} (hn : 0 < n) (hx : SOk x) (hm : memB nameL x = true) {P : Option PsL} (h1 : tabHas t_RULES z = true) (h2 : tabV t_RULES z = some (.tup [.fn z, allD])) (h3 : (tabT n).get z = some fun ds => if ds.length = 4 then ev n f ds else M.no) (h4 : ∀ w, ev n f [.str x, fT l, fT r, mD m] ro w = rs P w) : ev (n + 1) .f_premises_of [.str x, .str z, sqD (l, r), mD m] ro w = rs P w := by
  obtain ⟨k, rfl⟩ : ∃ k, n = k + 1 := ⟨n - 1, by omega⟩
  have rq := fun b w => e_require (n := k) (b := b) (ro := ro) (w := w)
  have rl := fun w => e_req hn x ro w
  simp only [hm, if_true] at rl
  have st : ∀ (t : List D) w, see ro w (D.tup t) = .tup t := fun _ _ => rfl
  have t1 : ∀ w, gTabIn t_RULES ["weaken"] (.str z) ro w = .ok (.bl true) w := fun w => by
    unfold gTabIn
    simp only [h1, if_true]
    rfl
  have t2 := fun w => tab_str (ro := ro) (w := w) h2
  have i1 : ∀ w, gIx (.tup [.fn z, allD]) (.int 1) ro w = .ok allD w := fun _ => rfl
  have i0 : ∀ w, gIx (.tup [.fn z, allD]) (.int 0) ro w = .ok (.fn z) w := fun _ => rfl
  have j1 : ∀ w, gIx (.tup [fT l, fT r]) (.int 1) ro w = .ok (fT r) w := fun _ => rfl
  have j0 : ∀ w, gIx (.tup [fT l, fT r]) (.int 0) ro w = .ok (fT l) w := fun _ => rfl
  have ic : ∀ w, gIn (.str x) allD ro w = .ok (.bl true) w := fun w => by
    have := in_strs (ro := ro) (w := w) (l := nameL) (x := x)
    rw [hm] at this
    exact this
  rw [q_premises_of, x_def]
  simp only [List.length_cons, List.length_nil, Nat.zero_add, Nat.reduceAdd, if_true, List.map_cons, List.map_nil, Nat.reduceSub, List.replicate, List.cons_append, List.nil_append, List.append_nil]
  unfold b_premises_of
  rw [x_seq]
  simp only [x_and, x_or, x_not, x_andT, x_orT, x_notT, x_tru, x_test, x_bin, x_un, x_tup, x_lst, x_call, x_call0, x_args, x_args0, x_var, x_k, x_one, x_nil, x_if, List.getElem?_cons_zero, List.getElem?_cons_succ, ofO_ss, an_ok, List.length_cons, List.length_nil, Nat.zero_add, Nat.reduceAdd, if_true, Bool.false_eq_true, if_false, see_int, see_str, see_bl, see_lst, see_tup, see_non, bool_bl, truth_bl, st_ok, oan_nx, oan_rt, oan_bk, oan_ct, fin_rt, fin_nx, tn_nx, tn_rt, tn_ct, tn_bk, andV_bl, orV_bl, notV_bl, List.set_cons_succ, List.set_cons_zero, Bool.not_true, Bool.not_false, Bool.true_and, add_int, sub_int, eq_int, ne_int, lt_int, le_int, gt_int, ge_int, int_int, int_bl, len_lst, len_tup, List.map_cons, List.map_nil, List.length_map, x_expr, rl]
  rw [x_seq]
  have a : ∀ w, cAnd (cTabIn t_RULES ["weaken"] (cVar 1)) (cBin gIn (cVar 0) (cBin gIx (cTab t_RULES (cVar 1)) (cK (.int 1)))) [some (.str x), some (.str z), some (sqD (l, r)), some (mD m)] ro w = .ok (.bl true) w := fun w => by
    have e0 : cTabIn t_RULES ["weaken"] (cVar 1) [some (.str x), some (.str z), some (sqD (l, r)), some (mD m)] ro w = .ok (.bl true) w := by
      rw [x_tabIn]
      simp only [x_and, x_or, x_not, x_andT, x_orT, x_notT, x_tru, x_test, x_bin, x_un, x_tup, x_lst, x_call, x_call0, x_args, x_args0, x_var, x_k, x_one, x_nil, x_if, List.getElem?_cons_zero, List.getElem?_cons_succ, ofO_ss, an_ok, List.length_cons, List.length_nil, Nat.zero_add, Nat.reduceAdd, if_true, Bool.false_eq_true, if_false, see_int, see_str, see_bl, see_lst, see_tup, see_non, bool_bl, truth_bl, st_ok, oan_nx, oan_rt, oan_bk, oan_ct, fin_rt, fin_nx, tn_nx, tn_rt, tn_ct, tn_bk, andV_bl, orV_bl, notV_bl, List.set_cons_succ, List.set_cons_zero, Bool.not_true, Bool.not_false, Bool.true_and, add_int, sub_int, eq_int, ne_int, lt_int, le_int, gt_int, ge_int, int_int, int_bl, len_lst, len_tup, List.map_cons, List.map_nil, List.length_map, t1]
    rw [x_and, e0, an_ok, andV_bl, if_pos rfl]
    simp only [x_and, x_or, x_not, x_andT, x_orT, x_notT, x_tru, x_test, x_bin, x_un, x_tup, x_lst, x_call, x_call0, x_args, x_args0, x_var, x_k, x_one, x_nil, x_if, List.getElem?_cons_zero, List.getElem?_cons_succ, ofO_ss, an_ok, List.length_cons, List.length_nil, Nat.zero_add, Nat.reduceAdd, if_true, Bool.false_eq_true, if_false, see_int, see_str, see_bl, see_lst, see_tup, see_non, bool_bl, truth_bl, st_ok, oan_nx, oan_rt, oan_bk, oan_ct, fin_rt, fin_nx, tn_nx, tn_rt, tn_ct, tn_bk, andV_bl, orV_bl, notV_bl, List.set_cons_succ, List.set_cons_zero, Bool.not_true, Bool.not_false, Bool.true_and, add_int, sub_int, eq_int, ne_int, lt_int, le_int, gt_int, ge_int, int_int, int_bl, len_lst, len_tup, List.map_cons, List.map_nil, List.length_map, x_tab, t2, st, i1, ic]
  rw [x_expr, x_call, x_args, a]
  simp only [x_and, x_or, x_not, x_andT, x_orT, x_notT, x_tru, x_test, x_bin, x_un, x_tup, x_lst, x_call, x_call0, x_args, x_args0, x_var, x_k, x_one, x_nil, x_if, List.getElem?_cons_zero, List.getElem?_cons_succ, ofO_ss, an_ok, List.length_cons, List.length_nil, Nat.zero_add, Nat.reduceAdd, if_true, Bool.false_eq_true, if_false, see_int, see_str, see_bl, see_lst, see_tup, see_non, bool_bl, truth_bl, st_ok, oan_nx, oan_rt, oan_bk, oan_ct, fin_rt, fin_nx, tn_nx, tn_rt, tn_ct, tn_bk, andV_bl, orV_bl, notV_bl, List.set_cons_succ, List.set_cons_zero, Bool.not_true, Bool.not_false, Bool.true_and, add_int, sub_int, eq_int, ne_int, lt_int, le_int, gt_int, ge_int, int_int, int_bl, len_lst, len_tup, List.map_cons, List.map_nil, List.length_map, rq]
  have c : ∀ w, cBin gIx (cTab t_RULES (cVar 1)) (cK (.int 0)) [some (.str x), some (.str z), some (sqD (l, r)), some (mD m)] ro w = .ok (.fn z) w := fun w => by
    simp only [x_and, x_or, x_not, x_andT, x_orT, x_notT, x_tru, x_test, x_bin, x_un, x_tup, x_lst, x_call, x_call0, x_args, x_args0, x_var, x_k, x_one, x_nil, x_if, List.getElem?_cons_zero, List.getElem?_cons_succ, ofO_ss, an_ok, List.length_cons, List.length_nil, Nat.zero_add, Nat.reduceAdd, if_true, Bool.false_eq_true, if_false, see_int, see_str, see_bl, see_lst, see_tup, see_non, bool_bl, truth_bl, st_ok, oan_nx, oan_rt, oan_bk, oan_ct, fin_rt, fin_nx, tn_nx, tn_rt, tn_ct, tn_bk, andV_bl, orV_bl, notV_bl, List.set_cons_succ, List.set_cons_zero, Bool.not_true, Bool.not_false, Bool.true_and, add_int, sub_int, eq_int, ne_int, lt_int, le_int, gt_int, ge_int, int_int, int_bl, len_lst, len_tup, List.map_cons, List.map_nil, List.length_map, x_tab, t2, st, i0]
  rw [x_ret, x_callE (c w) h3]
  simp only [x_and, x_or, x_not, x_andT, x_orT, x_notT, x_tru, x_test, x_bin, x_un, x_tup, x_lst, x_call, x_call0, x_args, x_args0, x_var, x_k, x_one, x_nil, x_if, List.getElem?_cons_zero, List.getElem?_cons_succ, ofO_ss, an_ok, List.length_cons, List.length_nil, Nat.zero_add, Nat.reduceAdd, if_true, Bool.false_eq_true, if_false, see_int, see_str, see_bl, see_lst, see_tup, see_non, bool_bl, truth_bl, st_ok, oan_nx, oan_rt, oan_bk, oan_ct, fin_rt, fin_nx, tn_nx, tn_rt, tn_ct, tn_bk, andV_bl, orV_bl, notV_bl, List.set_cons_succ, List.set_cons_zero, Bool.not_true, Bool.not_false, Bool.true_and, add_int, sub_int, eq_int, ne_int, lt_int, le_int, gt_int, ge_int, int_int, int_bl, len_lst, len_tup, List.map_cons, List.map_nil, List.length_map, st, j0, j1, h4]
  cases P with
  | none => rfl
  | some ps => rfl
end
section
variable {n : Nat} {ro w : List D}
theorem e_renum {s : Stp} {ns : List Int} (hn : 0 < n) : ev n .f_renumbered [stpD s, .lst (ns.map .int)] ro w = .ok (stpD { s with ns := ns }) w := by
  obtain ⟨k, rfl⟩ : ∃ k, n = k + 1 := ⟨n - 1, by omega⟩
  rw [q_renumbered, x_def]
  simp only [List.length_cons, List.length_nil, Nat.zero_add, Nat.reduceAdd, if_true, List.map_cons, List.map_nil, Nat.reduceSub, List.replicate, List.cons_append, List.nil_append, List.append_nil]
  unfold b_renumbered
  have ss : ∀ w, see ro w (stpD s) = stpD s := fun _ => rfl
  have i0 : ∀ w, gIx (stpD s) (.int 0) ro w = .ok (.str s.rule) w := fun _ => rfl
  have i1 : ∀ w, gIx (stpD s) (.int 1) ro w = .ok (sqD (s.l, s.r)) w := fun _ => rfl
  have i2 : ∀ w, gIx (stpD s) (.int 2) ro w = .ok (mD s.m) w := fun _ => rfl
  have sL : ∀ (t : List D) w, see ro w (.lst t) = .lst t := fun _ _ => rfl
  have tp : ∀ (t : List D) w, gTuple (.lst t) ro w = .ok (.tup t) w := fun _ _ => rfl
  rw [x_ret]
  simp only [x_and, x_or, x_not, x_andT, x_orT, x_notT, x_tru, x_test, x_bin, x_un, x_tup, x_lst, x_call, x_call0, x_args, x_args0, x_var, x_k, x_one, x_nil, x_if, List.getElem?_cons_zero, List.getElem?_cons_succ, ofO_ss, an_ok, List.length_cons, List.length_nil, Nat.zero_add, Nat.reduceAdd, if_true, Bool.false_eq_true, if_false, see_int, see_str, see_bl, see_lst, see_tup, see_non, bool_bl, truth_bl, st_ok, oan_nx, oan_rt, oan_bk, oan_ct, fin_rt, fin_nx, tn_nx, tn_rt, tn_ct, tn_bk, andV_bl, orV_bl, notV_bl, List.set_cons_succ, List.set_cons_zero, Bool.not_true, Bool.not_false, Bool.true_and, add_int, sub_int, eq_int, ne_int, lt_int, le_int, gt_int, ge_int, int_int, int_bl, len_lst, len_tup, List.map_cons, List.map_nil, List.length_map, x_one, ss, i0, i1, i2, sL, tp]
/-- the goal behind the cut's right side -/
abbrev cutR (r : List Fm) (q : Fm) : List Fm := r.filter fun φ => !decide (φ = q)
def fitsJ (s1 s2 : Stp) (q : Fm) : Bool := decide (q ∈ s1.r) && !decide (q ∈ s1.l) && decide ((s2.l, s2.r) = (As (s1.l ++ [q]), cutR s1.r q))
abbrev shiftS (k : Nat) (s : Stp) : Stp := { s with ns := s.ns.map (· + (k : Int)) }
abbrev cutS (s1 : Stp) (q : Fm) (a b : Nat) : Stp := ⟨"cut", s1.l, cutR s1.r q, some q, [(a : Int) - 1, (a : Int) + (b : Int) - 1]⟩
abbrev joinS (S1 S2 : List Stp) (s1 : Stp) (q : Fm) : List Stp := S1 ++ S2.map (shiftS S1.length) ++ [cutS s1 q S1.length S2.length]
theorem cutR_comp {env : Fx.Env} {k : Nat} {fc : EF} {l : List Fm} {q : Fm} (hl : Fs l) (h1 : q.ht ≤ 4) (h2 : q.Over SOk) (hk : k < env.length) (hc : ∀ (d : D) w, fc (env.set k (some d)) ro w = .ok q.toD w) (hw : wipeE env [k] = env) {it : Fx.Env → M (List D)} (hi : ∀ w, it env ro w = .ok (l.map Fm.toD) w) : cComp (.nm k) [k] it (cTest (cBin gNe (cVar k) fc)) (cVar k) kStill env ro w = .ok (fL (cutR l q)) w := by
  have hs : sizeLine = 16777216 := rfl
  have vk : ∀ (d : D) w, cVar k (env.set k (some d)) ro w = .ok d w := fun d w => by
    rw [x_var, List.getElem?_set_self hk]
    rfl
  have c := comp_filt (k := k) (env := env) (ro := ro) (w := w) (h := Fm.toD) (g := Fm.toD) (p := fun φ => !decide (φ = q)) (ta := cTest (cBin gNe (cVar k) fc)) (fa := cVar k) (l := l) (fun φ hφ => by
    have sm : ∀ (ψ : Fm), see ro w ψ.toD = ψ.toD := fun _ => see_fm
    have a1 := hl.ht φ hφ
    have nn : gNe φ.toD q.toD ro w = .ok (.bl (!decide (φ = q))) w := by
      rw [ne_eqo (Fm.eqo (hl.ov φ hφ) (by omega)) (Fm.eqo h2 (by omega))]
      congr 3
      exact decide_eq_decide.mpr Fm.toD_inj
    rw [x_test, x_bin, vk, an_ok, hc, an_ok, sm, sm, nn, an_ok, bool_bl]) (fun φ hφ _ => vk _ _)
  rw [x_comp, hi, an_ok, if_pos (by rw [List.length_map]; have := hl.few; omega), hw, c, an_ok, x_still]
theorem sq_eq {a b c d : List Fm} (ha : Fs a) (hb : Fs b) (hc : Fs c) (hd : Fs d) : gEq (sqD (a, b)) (sqD (c, d)) ro w = .ok (.bl (decide ((a, b) = (c, d)))) w := by
  have e1 := two_eqo (t := .tup) (.inr rfl) (ha.facts (t := .tup) (.inr rfl)) (hb.facts (t := .tup) (.inr rfl))
  have e2 := two_eqo (t := .tup) (.inr rfl) (hc.facts (t := .tup) (.inr rfl)) (hd.facts (t := .tup) (.inr rfl))
  show gEq (.tup [.tup _, .tup _]) (.tup [.tup _, .tup _]) ro w = _
  rw [eq_eqo e1 e2]
  congr 2
  refine decide_eq_decide.mpr ⟨fun h => ?_, fun h => ?_⟩
  · injection h with h
    injection h with h1 h2
    injection h2 with h2 _
    exact Prod.ext (fT_inj.mp h1) (fT_inj.mp h2)
  · injection h with h1 h2
    rw [h1, h2]
theorem sq_ne {a b c d : List Fm} (ha : Fs a) (hb : Fs b) (hc : Fs c) (hd : Fs d) : gNe (sqD (a, b)) (sqD (c, d)) ro w = .ok (.bl (!decide ((a, b) = (c, d)))) w := by
  have e1 := two_eqo (t := .tup) (.inr rfl) (ha.facts (t := .tup) (.inr rfl)) (hb.facts (t := .tup) (.inr rfl))
  have e2 := two_eqo (t := .tup) (.inr rfl) (hc.facts (t := .tup) (.inr rfl)) (hd.facts (t := .tup) (.inr rfl))
  have h := sq_eq (ro := ro) (w := w) ha hb hc hd
  have k1 : gEq (D.tup [fT a, fT b]) (.tup [fT c, fT d]) ro w = _ := eq_eqo e1 e2
  have k2 : gNe (D.tup [fT a, fT b]) (.tup [fT c, fT d]) ro w = _ := ne_eqo e1 e2
  have h' : gEq (D.tup [fT a, fT b]) (.tup [fT c, fT d]) ro w = .ok (.bl (decide ((a, b) = (c, d)))) w := h
  rw [k1] at h'
  simp only [Out.ok.injEq, D.bl.injEq, and_true] at h'
  show gNe (D.tup [fT a, fT b]) (.tup [fT c, fT d]) ro w = _
  rw [k2, h']
theorem cutR_fs {l : List Fm} {q : Fm} (h : Fs l) : Fs (cutR l q) := ⟨fun φ hφ => h.ht φ (List.mem_filter.mp hφ).1, fun φ hφ => h.ov φ (List.mem_filter.mp hφ).1, Nat.le_trans (List.length_filter_le _ _) h.few⟩
theorem e_joined {S1 S2 : List Stp} {s1 s2 : Stp} {q : Fm} (h1 : AllS S1) (h2 : AllS S2) (e1 : S1.getLast? = some s1) (e2 : S2.getLast? = some s2) (q1 : q.ht ≤ 4) (q2 : q.Over SOk) (hn : 3 < n) : ev (n + 1) .f_joined [stsD S1, stsD S2, q.toD] ro w = if fitsJ s1 s2 q = true then .ok (stsD (joinS S1 S2 s1 q)) w else .exn "NoFit" [] [] w := by
  have hs : sizeLine = 16777216 := rfl
  obtain ⟨n, rfl⟩ : ∃ k, n = k + 2 := ⟨n - 2, by omega⟩
  have g1 := (h1.good s1 (List.mem_of_getLast? e1)).sd
  have g2 := (h2.good s2 (List.mem_of_getLast? e2)).sd
  have c1 := fun w => e_conc (n := n + 2) (ro := ro) (w := w) (by omega) e1
  have c2 := fun w => e_conc (n := n + 2) (ro := ro) (w := w) (by omega) e2
  have st : ∀ (S : List Stp) w, see ro w (stsD S) = stsD S := fun _ _ => rfl
  have sq : ∀ (p : List Fm × List Fm) w, see ro w (sqD p) = sqD p := fun _ _ => rfl
  have sT : ∀ (l : List Fm) w, see ro w (fT l) = fT l := fun _ _ => rfl
  have sL : ∀ (l : List Fm) w, see ro w (fL l) = fL l := fun _ _ => rfl
  have sm : ∀ (φ : Fm) w, see ro w φ.toD = φ.toD := fun _ _ => see_fm
  have tp : ∀ (l : List Fm) w, gTuple (fL l) ro w = .ok (fT l) w := fun _ _ => rfl
  have fa := g1.sl.app g1.ll (one_in ⟨q1, q2⟩) (by simp)
  have ad := fun w => var2 (n := n) (ro := ro) (w := w) fa
  have in1 := fun w => in_fT (ro := ro) (w := w) g1.sr q1 q2
  have in2 := fun w => ninFT (ro := ro) (w := w) g1.sl q1 q2
  have ne := fun w => sq_ne (ro := ro) (w := w) g2.sl g2.sr fa.as (cutR_fs (q := q) g1.sr)
  have i1 : ∀ (a b : D) w, gIx (.tup [a, b]) (.int 1) ro w = .ok b w := fun _ _ _ => rfl
  have s2' : ∀ (a b : D) w, see ro w (D.tup [a, b]) = .tup [a, b] := fun _ _ _ => rfl
  have ln : ∀ (S : List Stp) w, gLen (stsD S) ro w = .ok (.int (S.length : Int)) w := fun S w => by
    show gLen (.lst _) ro w = _
    rw [len_lst, List.length_map]
  rw [q_joined, x_def]
  simp only [List.length_cons, List.length_nil, Nat.zero_add, Nat.reduceAdd, if_true, List.map_cons, List.map_nil, Nat.reduceSub, List.replicate, List.cons_append, List.nil_append, List.append_nil]
  unfold b_joined
  have as : sAsg (.tp [3, 4]) (cCall (fun ds => if ds.length = 1 then ev (n + 2) .f_conclusion_of ds else M.no) (cArgs [cVar 0])) [some (stsD S1), some (stsD S2), some q.toD, none, none, none, none, none, none, none, none, none] ro w = .go .nx [some (stsD S1), some (stsD S2), some q.toD, some (fT s1.l), some (fT s1.r), none, none, none, none, none, none, none] w := x_asg (d := sqD (s1.l, s1.r)) (w1 := w) (by simp only [x_and, x_or, x_not, x_andT, x_orT, x_notT, x_tru, x_test, x_bin, x_un, x_tup, x_lst, x_call, x_call0, x_args, x_args0, x_var, x_k, x_one, x_nil, x_if, List.getElem?_cons_zero, List.getElem?_cons_succ, ofO_ss, an_ok, List.length_cons, List.length_nil, Nat.zero_add, Nat.reduceAdd, if_true, Bool.false_eq_true, if_false, see_int, see_str, see_bl, see_lst, see_tup, see_non, bool_bl, truth_bl, st_ok, oan_nx, oan_rt, oan_bk, oan_ct, fin_rt, fin_nx, tn_nx, tn_rt, tn_ct, tn_bk, andV_bl, orV_bl, notV_bl, List.set_cons_succ, List.set_cons_zero, Bool.not_true, Bool.not_false, Bool.true_and, add_int, sub_int, eq_int, ne_int, lt_int, le_int, gt_int, ge_int, int_int, int_bl, len_lst, len_tup, List.map_cons, List.map_nil, List.length_map, c1]) rfl
  have as' := as
  have cm := cutR_comp (ro := ro) (w := w) (k := 10) (fc := cVar 2) (env := [some (stsD S1), some (stsD S2), some q.toD, some (fT s1.l), some (fT s1.r), none, none, none, none, none, none, none]) g1.sr q1 q2 (by simp) (fun d w => rfl) rfl (it := cSeq (cVar 4)) (fun w => rfl)
  rw [x_seq, as', oan_nx, x_seq, x_set]
  simp only [x_and, x_or, x_not, x_andT, x_orT, x_notT, x_tru, x_test, x_bin, x_un, x_tup, x_lst, x_call, x_call0, x_args, x_args0, x_var, x_k, x_one, x_nil, x_if, List.getElem?_cons_zero, List.getElem?_cons_succ, ofO_ss, an_ok, List.length_cons, List.length_nil, Nat.zero_add, Nat.reduceAdd, if_true, Bool.false_eq_true, if_false, see_int, see_str, see_bl, see_lst, see_tup, see_non, bool_bl, truth_bl, st_ok, oan_nx, oan_rt, oan_bk, oan_ct, fin_rt, fin_nx, tn_nx, tn_rt, tn_ct, tn_bk, andV_bl, orV_bl, notV_bl, List.set_cons_succ, List.set_cons_zero, Bool.not_true, Bool.not_false, Bool.true_and, add_int, sub_int, eq_int, ne_int, lt_int, le_int, gt_int, ge_int, int_int, int_bl, len_lst, len_tup, List.map_cons, List.map_nil, List.length_map, x_one, cm, sL, tp]
  rw [x_seq, x_set, x_and]
  simp only [x_and, x_or, x_not, x_andT, x_orT, x_notT, x_tru, x_test, x_bin, x_un, x_tup, x_lst, x_call, x_call0, x_args, x_args0, x_var, x_k, x_one, x_nil, x_if, List.getElem?_cons_zero, List.getElem?_cons_succ, ofO_ss, an_ok, List.length_cons, List.length_nil, Nat.zero_add, Nat.reduceAdd, if_true, Bool.false_eq_true, if_false, see_int, see_str, see_bl, see_lst, see_tup, see_non, bool_bl, truth_bl, st_ok, oan_nx, oan_rt, oan_bk, oan_ct, fin_rt, fin_nx, tn_nx, tn_rt, tn_ct, tn_bk, andV_bl, orV_bl, notV_bl, List.set_cons_succ, List.set_cons_zero, Bool.not_true, Bool.not_false, Bool.true_and, add_int, sub_int, eq_int, ne_int, lt_int, le_int, gt_int, ge_int, int_int, int_bl, len_lst, len_tup, List.map_cons, List.map_nil, List.length_map, sm, sT, in1]
  unfold fitsJ
  cases hq : decide (q ∈ s1.r) with
  | false =>
    simp only [x_and, x_or, x_not, x_andT, x_orT, x_notT, x_tru, x_test, x_bin, x_un, x_tup, x_lst, x_call, x_call0, x_args, x_args0, x_var, x_k, x_one, x_nil, x_if, List.getElem?_cons_zero, List.getElem?_cons_succ, ofO_ss, an_ok, List.length_cons, List.length_nil, Nat.zero_add, Nat.reduceAdd, if_true, Bool.false_eq_true, if_false, see_int, see_str, see_bl, see_lst, see_tup, see_non, bool_bl, truth_bl, st_ok, oan_nx, oan_rt, oan_bk, oan_ct, fin_rt, fin_nx, tn_nx, tn_rt, tn_ct, tn_bk, andV_bl, orV_bl, notV_bl, List.set_cons_succ, List.set_cons_zero, Bool.not_true, Bool.not_false, Bool.true_and, add_int, sub_int, eq_int, ne_int, lt_int, le_int, gt_int, ge_int, int_int, int_bl, len_lst, len_tup, List.map_cons, List.map_nil, List.length_map, Bool.false_and]
    rw [x_seq, x_ifS]
    simp only [x_and, x_or, x_not, x_andT, x_orT, x_notT, x_tru, x_test, x_bin, x_un, x_tup, x_lst, x_call, x_call0, x_args, x_args0, x_var, x_k, x_one, x_nil, x_if, List.getElem?_cons_zero, List.getElem?_cons_succ, ofO_ss, an_ok, List.length_cons, List.length_nil, Nat.zero_add, Nat.reduceAdd, if_true, Bool.false_eq_true, if_false, see_int, see_str, see_bl, see_lst, see_tup, see_non, bool_bl, truth_bl, st_ok, oan_nx, oan_rt, oan_bk, oan_ct, fin_rt, fin_nx, tn_nx, tn_rt, tn_ct, tn_bk, andV_bl, orV_bl, notV_bl, List.set_cons_succ, List.set_cons_zero, Bool.not_true, Bool.not_false, Bool.true_and, add_int, sub_int, eq_int, ne_int, lt_int, le_int, gt_int, ge_int, int_int, int_bl, len_lst, len_tup, List.map_cons, List.map_nil, List.length_map]
    rfl
  | true =>
    simp only [x_and, x_or, x_not, x_andT, x_orT, x_notT, x_tru, x_test, x_bin, x_un, x_tup, x_lst, x_call, x_call0, x_args, x_args0, x_var, x_k, x_one, x_nil, x_if, List.getElem?_cons_zero, List.getElem?_cons_succ, ofO_ss, an_ok, List.length_cons, List.length_nil, Nat.zero_add, Nat.reduceAdd, if_true, Bool.false_eq_true, if_false, see_int, see_str, see_bl, see_lst, see_tup, see_non, bool_bl, truth_bl, st_ok, oan_nx, oan_rt, oan_bk, oan_ct, fin_rt, fin_nx, tn_nx, tn_rt, tn_ct, tn_bk, andV_bl, orV_bl, notV_bl, List.set_cons_succ, List.set_cons_zero, Bool.not_true, Bool.not_false, Bool.true_and, add_int, sub_int, eq_int, ne_int, lt_int, le_int, gt_int, ge_int, int_int, int_bl, len_lst, len_tup, List.map_cons, List.map_nil, List.length_map, sm, sT, in2]
    cases hp : decide (q ∈ s1.l) with
    | true =>
      simp only [x_and, x_or, x_not, x_andT, x_orT, x_notT, x_tru, x_test, x_bin, x_un, x_tup, x_lst, x_call, x_call0, x_args, x_args0, x_var, x_k, x_one, x_nil, x_if, List.getElem?_cons_zero, List.getElem?_cons_succ, ofO_ss, an_ok, List.length_cons, List.length_nil, Nat.zero_add, Nat.reduceAdd, if_true, Bool.false_eq_true, if_false, see_int, see_str, see_bl, see_lst, see_tup, see_non, bool_bl, truth_bl, st_ok, oan_nx, oan_rt, oan_bk, oan_ct, fin_rt, fin_nx, tn_nx, tn_rt, tn_ct, tn_bk, andV_bl, orV_bl, notV_bl, List.set_cons_succ, List.set_cons_zero, Bool.not_true, Bool.not_false, Bool.true_and, add_int, sub_int, eq_int, ne_int, lt_int, le_int, gt_int, ge_int, int_int, int_bl, len_lst, len_tup, List.map_cons, List.map_nil, List.length_map, Bool.and_false]
      rw [x_seq, x_ifS]
      simp only [x_and, x_or, x_not, x_andT, x_orT, x_notT, x_tru, x_test, x_bin, x_un, x_tup, x_lst, x_call, x_call0, x_args, x_args0, x_var, x_k, x_one, x_nil, x_if, List.getElem?_cons_zero, List.getElem?_cons_succ, ofO_ss, an_ok, List.length_cons, List.length_nil, Nat.zero_add, Nat.reduceAdd, if_true, Bool.false_eq_true, if_false, see_int, see_str, see_bl, see_lst, see_tup, see_non, bool_bl, truth_bl, st_ok, oan_nx, oan_rt, oan_bk, oan_ct, fin_rt, fin_nx, tn_nx, tn_rt, tn_ct, tn_bk, andV_bl, orV_bl, notV_bl, List.set_cons_succ, List.set_cons_zero, Bool.not_true, Bool.not_false, Bool.true_and, add_int, sub_int, eq_int, ne_int, lt_int, le_int, gt_int, ge_int, int_int, int_bl, len_lst, len_tup, List.map_cons, List.map_nil, List.length_map]
      rfl
    | false =>
      simp only [x_and, x_or, x_not, x_andT, x_orT, x_notT, x_tru, x_test, x_bin, x_un, x_tup, x_lst, x_call, x_call0, x_args, x_args0, x_var, x_k, x_one, x_nil, x_if, List.getElem?_cons_zero, List.getElem?_cons_succ, ofO_ss, an_ok, List.length_cons, List.length_nil, Nat.zero_add, Nat.reduceAdd, if_true, Bool.false_eq_true, if_false, see_int, see_str, see_bl, see_lst, see_tup, see_non, bool_bl, truth_bl, st_ok, oan_nx, oan_rt, oan_bk, oan_ct, fin_rt, fin_nx, tn_nx, tn_rt, tn_ct, tn_bk, andV_bl, orV_bl, notV_bl, List.set_cons_succ, List.set_cons_zero, Bool.not_true, Bool.not_false, Bool.true_and, add_int, sub_int, eq_int, ne_int, lt_int, le_int, gt_int, ge_int, int_int, int_bl, len_lst, len_tup, List.map_cons, List.map_nil, List.length_map]
      rw [x_seq, x_ifS]
      simp only [x_and, x_or, x_not, x_andT, x_orT, x_notT, x_tru, x_test, x_bin, x_un, x_tup, x_lst, x_call, x_call0, x_args, x_args0, x_var, x_k, x_one, x_nil, x_if, List.getElem?_cons_zero, List.getElem?_cons_succ, ofO_ss, an_ok, List.length_cons, List.length_nil, Nat.zero_add, Nat.reduceAdd, if_true, Bool.false_eq_true, if_false, see_int, see_str, see_bl, see_lst, see_tup, see_non, bool_bl, truth_bl, st_ok, oan_nx, oan_rt, oan_bk, oan_ct, fin_rt, fin_nx, tn_nx, tn_rt, tn_ct, tn_bk, andV_bl, orV_bl, notV_bl, List.set_cons_succ, List.set_cons_zero, Bool.not_true, Bool.not_false, Bool.true_and, add_int, sub_int, eq_int, ne_int, lt_int, le_int, gt_int, ge_int, int_int, int_bl, len_lst, len_tup, List.map_cons, List.map_nil, List.length_map, c2, sm, sT, ad, s2', i1, ne]
      cases hd : decide ((s2.l, s2.r) = (As (s1.l ++ [q]), cutR s1.r q)) with
      | false =>
        simp only [x_and, x_or, x_not, x_andT, x_orT, x_notT, x_tru, x_test, x_bin, x_un, x_tup, x_lst, x_call, x_call0, x_args, x_args0, x_var, x_k, x_one, x_nil, x_if, List.getElem?_cons_zero, List.getElem?_cons_succ, ofO_ss, an_ok, List.length_cons, List.length_nil, Nat.zero_add, Nat.reduceAdd, if_true, Bool.false_eq_true, if_false, see_int, see_str, see_bl, see_lst, see_tup, see_non, bool_bl, truth_bl, st_ok, oan_nx, oan_rt, oan_bk, oan_ct, fin_rt, fin_nx, tn_nx, tn_rt, tn_ct, tn_bk, andV_bl, orV_bl, notV_bl, List.set_cons_succ, List.set_cons_zero, Bool.not_true, Bool.not_false, Bool.true_and, add_int, sub_int, eq_int, ne_int, lt_int, le_int, gt_int, ge_int, int_int, int_bl, len_lst, len_tup, List.map_cons, List.map_nil, List.length_map]
        rfl
      | true =>
        simp only [x_and, x_or, x_not, x_andT, x_orT, x_notT, x_tru, x_test, x_bin, x_un, x_tup, x_lst, x_call, x_call0, x_args, x_args0, x_var, x_k, x_one, x_nil, x_if, List.getElem?_cons_zero, List.getElem?_cons_succ, ofO_ss, an_ok, List.length_cons, List.length_nil, Nat.zero_add, Nat.reduceAdd, if_true, Bool.false_eq_true, if_false, see_int, see_str, see_bl, see_lst, see_tup, see_non, bool_bl, truth_bl, st_ok, oan_nx, oan_rt, oan_bk, oan_ct, fin_rt, fin_nx, tn_nx, tn_rt, tn_ct, tn_bk, andV_bl, orV_bl, notV_bl, List.set_cons_succ, List.set_cons_zero, Bool.not_true, Bool.not_false, Bool.true_and, add_int, sub_int, eq_int, ne_int, lt_int, le_int, gt_int, ge_int, int_int, int_bl, len_lst, len_tup, List.map_cons, List.map_nil, List.length_map, x_nil]
        have nb := h1.few
        have nc := h2.few
        rw [x_seq, x_set]
        simp only [x_and, x_or, x_not, x_andT, x_orT, x_notT, x_tru, x_test, x_bin, x_un, x_tup, x_lst, x_call, x_call0, x_args, x_args0, x_var, x_k, x_one, x_nil, x_if, List.getElem?_cons_zero, List.getElem?_cons_succ, ofO_ss, an_ok, List.length_cons, List.length_nil, Nat.zero_add, Nat.reduceAdd, if_true, Bool.false_eq_true, if_false, see_int, see_str, see_bl, see_lst, see_tup, see_non, bool_bl, truth_bl, st_ok, oan_nx, oan_rt, oan_bk, oan_ct, fin_rt, fin_nx, tn_nx, tn_rt, tn_ct, tn_bk, andV_bl, orV_bl, notV_bl, List.set_cons_succ, List.set_cons_zero, Bool.not_true, Bool.not_false, Bool.true_and, add_int, sub_int, eq_int, ne_int, lt_int, le_int, gt_int, ge_int, int_int, int_bl, len_lst, len_tup, List.map_cons, List.map_nil, List.length_map, x_one, st, ln]
        -- the moved steps
        have mv : ∀ w, cComp (.nm 9) [9] (cSeq (cVar 1)) (cYes) (cCall (fun ds => if ds.length = 2 then ev (n + 2) .f_renumbered ds else M.no) (cArgs [cVar 9, cComp (.nm 11) [11] (cSeq (cBin gIx (cVar 9) (cK (.int 3)))) (cYes) (cBin gAdd (cVar 11) (cVar 7)) kStill])) kStill [some (stsD S1), some (stsD S2), some q.toD, some (fT s1.l), some (fT s1.r), some (.tup [fT s1.l, fT (cutR s1.r q)]), some (.bl true), some (.int (S1.length : Int)), none, none, none, none] ro w = .ok (stsD (S2.map (shiftS S1.length))) w := fun w => by
          have c := comp_all (k := 9) (env := [some (stsD S1), some (stsD S2), some q.toD, some (fT s1.l), some (fT s1.r), some (.tup [fT s1.l, fT (cutR s1.r q)]), some (.bl true), some (.int (S1.length : Int)), none, none, none, none]) (ro := ro) (w := w) (h := stpD) (g := fun s => stpD (shiftS S1.length s)) (fa := cCall (fun ds => if ds.length = 2 then ev (n + 2) .f_renumbered ds else M.no) (cArgs [cVar 9, cComp (.nm 11) [11] (cSeq (cBin gIx (cVar 9) (cK (.int 3)))) (cYes) (cBin gAdd (cVar 11) (cVar 7)) kStill])) (l := S2) (fun s hs' => by
            have d := comp_all (k := 11) (env := [some (stsD S1), some (stsD S2), some q.toD, some (fT s1.l), some (fT s1.r), some (.tup [fT s1.l, fT (cutR s1.r q)]), some (.bl true), some (.int (S1.length : Int)), none, some (stpD s), none, none]) (ro := ro) (w := w) (h := D.int) (g := fun i : Int => .int (i + (S1.length : Int))) (fa := cBin gAdd (cVar 11) (cVar 7)) (l := s.ns) (fun i _ => by simp only [x_and, x_or, x_not, x_andT, x_orT, x_notT, x_tru, x_test, x_bin, x_un, x_tup, x_lst, x_call, x_call0, x_args, x_args0, x_var, x_k, x_one, x_nil, x_if, List.getElem?_cons_zero, List.getElem?_cons_succ, ofO_ss, an_ok, List.length_cons, List.length_nil, Nat.zero_add, Nat.reduceAdd, if_true, Bool.false_eq_true, if_false, see_int, see_str, see_bl, see_lst, see_tup, see_non, bool_bl, truth_bl, st_ok, oan_nx, oan_rt, oan_bk, oan_ct, fin_rt, fin_nx, tn_nx, tn_rt, tn_ct, tn_bk, andV_bl, orV_bl, notV_bl, List.set_cons_succ, List.set_cons_zero, Bool.not_true, Bool.not_false, Bool.true_and, add_int, sub_int, eq_int, ne_int, lt_int, le_int, gt_int, ge_int, int_int, int_bl, len_lst, len_tup, List.map_cons, List.map_nil, List.length_map])
            have ss : ∀ w, see ro w (stpD s) = stpD s := fun _ => rfl
            have i3 : ∀ w, gIx (stpD s) (.int 3) ro w = .ok (numD s.ns) w := fun _ => rfl
            have it : cSeq (cBin gIx (cVar 9) (cK (.int 3))) [some (stsD S1), some (stsD S2), some q.toD, some (fT s1.l), some (fT s1.r), some (.tup [fT s1.l, fT (cutR s1.r q)]), some (.bl true), some (.int (S1.length : Int)), none, some (stpD s), none, none] ro w = .ok (s.ns.map D.int) w := by
              rw [x_seqI]
              simp only [x_and, x_or, x_not, x_andT, x_orT, x_notT, x_tru, x_test, x_bin, x_un, x_tup, x_lst, x_call, x_call0, x_args, x_args0, x_var, x_k, x_one, x_nil, x_if, List.getElem?_cons_zero, List.getElem?_cons_succ, ofO_ss, an_ok, List.length_cons, List.length_nil, Nat.zero_add, Nat.reduceAdd, if_true, Bool.false_eq_true, if_false, see_int, see_str, see_bl, see_lst, see_tup, see_non, bool_bl, truth_bl, st_ok, oan_nx, oan_rt, oan_bk, oan_ct, fin_rt, fin_nx, tn_nx, tn_rt, tn_ct, tn_bk, andV_bl, orV_bl, notV_bl, List.set_cons_succ, List.set_cons_zero, Bool.not_true, Bool.not_false, Bool.true_and, add_int, sub_int, eq_int, ne_int, lt_int, le_int, gt_int, ge_int, int_int, int_bl, len_lst, len_tup, List.map_cons, List.map_nil, List.length_map, ss, i3]
              rfl
            have cc : cComp (.nm 11) [11] (cSeq (cBin gIx (cVar 9) (cK (.int 3)))) (cYes) (cBin gAdd (cVar 11) (cVar 7)) kStill [some (stsD S1), some (stsD S2), some q.toD, some (fT s1.l), some (fT s1.r), some (.tup [fT s1.l, fT (cutR s1.r q)]), some (.bl true), some (.int (S1.length : Int)), none, some (stpD s), none, none] ro w = .ok (.lst ((s.ns.map (· + (S1.length : Int))).map D.int)) w := by
              have := (h2.good s hs').few
              rw [x_comp, it, an_ok, if_pos (by rw [List.length_map]; omega)]
              have d' := d
              rw [show wipeE [some (stsD S1), some (stsD S2), some q.toD, some (fT s1.l), some (fT s1.r), some (.tup [fT s1.l, fT (cutR s1.r q)]), some (.bl true), some (.int (S1.length : Int)), none, some (stpD s), none, none] [11] = [some (stsD S1), some (stsD S2), some q.toD, some (fT s1.l), some (fT s1.r), some (.tup [fT s1.l, fT (cutR s1.r q)]), some (.bl true), some (.int (S1.length : Int)), none, some (stpD s), none, none] from rfl, d', an_ok, x_still, List.map_map]
              rfl
            have rn := fun w => e_renum (n := n + 2) (ro := ro) (w := w) (s := s) (ns := s.ns.map (· + (S1.length : Int))) (by omega)
            show cCall _ _ [some (stsD S1), some (stsD S2), some q.toD, some (fT s1.l), some (fT s1.r), some (.tup [fT s1.l, fT (cutR s1.r q)]), some (.bl true), some (.int (S1.length : Int)), none, some (stpD s), none, none] ro w = _
            rw [x_call, x_args, x_var]
            simp only [x_and, x_or, x_not, x_andT, x_orT, x_notT, x_tru, x_test, x_bin, x_un, x_tup, x_lst, x_call, x_call0, x_args, x_args0, x_var, x_k, x_one, x_nil, x_if, List.getElem?_cons_zero, List.getElem?_cons_succ, ofO_ss, an_ok, List.length_cons, List.length_nil, Nat.zero_add, Nat.reduceAdd, if_true, Bool.false_eq_true, if_false, see_int, see_str, see_bl, see_lst, see_tup, see_non, bool_bl, truth_bl, st_ok, oan_nx, oan_rt, oan_bk, oan_ct, fin_rt, fin_nx, tn_nx, tn_rt, tn_ct, tn_bk, andV_bl, orV_bl, notV_bl, List.set_cons_succ, List.set_cons_zero, Bool.not_true, Bool.not_false, Bool.true_and, add_int, sub_int, eq_int, ne_int, lt_int, le_int, gt_int, ge_int, int_int, int_bl, len_lst, len_tup, List.map_cons, List.map_nil, List.length_map]
            rw [cc]
            simp only [x_and, x_or, x_not, x_andT, x_orT, x_notT, x_tru, x_test, x_bin, x_un, x_tup, x_lst, x_call, x_call0, x_args, x_args0, x_var, x_k, x_one, x_nil, x_if, List.getElem?_cons_zero, List.getElem?_cons_succ, ofO_ss, an_ok, List.length_cons, List.length_nil, Nat.zero_add, Nat.reduceAdd, if_true, Bool.false_eq_true, if_false, see_int, see_str, see_bl, see_lst, see_tup, see_non, bool_bl, truth_bl, st_ok, oan_nx, oan_rt, oan_bk, oan_ct, fin_rt, fin_nx, tn_nx, tn_rt, tn_ct, tn_bk, andV_bl, orV_bl, notV_bl, List.set_cons_succ, List.set_cons_zero, Bool.not_true, Bool.not_false, Bool.true_and, add_int, sub_int, eq_int, ne_int, lt_int, le_int, gt_int, ge_int, int_int, int_bl, len_lst, len_tup, List.map_cons, List.map_nil, List.length_map, rn])
          have it : cSeq (cVar 1) [some (stsD S1), some (stsD S2), some q.toD, some (fT s1.l), some (fT s1.r), some (.tup [fT s1.l, fT (cutR s1.r q)]), some (.bl true), some (.int (S1.length : Int)), none, none, none, none] ro w = .ok (S2.map stpD) w := rfl
          rw [x_comp, it, an_ok, if_pos (by rw [List.length_map]; omega)]
          have c' := c
          rw [show wipeE [some (stsD S1), some (stsD S2), some q.toD, some (fT s1.l), some (fT s1.r), some (.tup [fT s1.l, fT (cutR s1.r q)]), some (.bl true), some (.int (S1.length : Int)), none, none, none, none] [9] = [some (stsD S1), some (stsD S2), some q.toD, some (fT s1.l), some (fT s1.r), some (.tup [fT s1.l, fT (cutR s1.r q)]), some (.bl true), some (.int (S1.length : Int)), none, none, none, none] from rfl, c', an_ok, x_still]
          show Out.ok (D.lst (S2.map fun s => stpD (shiftS S1.length s))) w = Out.ok (.lst ((S2.map (shiftS S1.length)).map stpD)) w
          rw [List.map_map]
          rfl
        rw [x_seq, x_set, mv, st_ok, oan_nx]
        simp only [List.set_cons_succ, List.set_cons_zero]
        have a1 : ∀ w, gAdd (stsD S1) (stsD (S2.map (shiftS S1.length))) ro w = .ok (stsD (S1 ++ S2.map (shiftS S1.length))) w := fun w => by
          show gAdd (.lst _) (.lst _) ro w = _
          rw [add_lst, if_pos (by simp only [List.length_map]; omega), ← List.map_append]
        have a2 : ∀ w, gAdd (stsD (S1 ++ S2.map (shiftS S1.length))) (.lst [stpD (cutS s1 q S1.length S2.length)]) ro w = .ok (stsD (joinS S1 S2 s1 q)) w := fun w => by
          show gAdd (.lst _) (.lst _) ro w = _
          rw [add_lst, if_pos (by simp only [List.length_map, List.length_append, List.length_cons, List.length_nil]; omega)]
          simp only [stsD, List.map_append, List.map_cons, List.map_nil]
        have k1 : ∀ w, see ro w (.lst [stpD (cutS s1 q S1.length S2.length)]) = .lst [stpD (cutS s1 q S1.length S2.length)] := fun _ => rfl
        have lc : ∀ w, cLst (cArgs [cTup (cArgs [cK (.str "cut"), cVar 5, cVar 2, cTup (cArgs [cBin gSub (cVar 7) (cK (.int 1)), cBin gSub (cBin gAdd (cVar 7) (cCall (one gLen) (cArgs [cVar 1]))) (cK (.int 1))])])]) [some (stsD S1), some (stsD S2), some q.toD, some (fT s1.l), some (fT s1.r), some (.tup [fT s1.l, fT (cutR s1.r q)]), some (.bl true), some (.int (S1.length : Int)), some (stsD (S2.map (shiftS S1.length))), none, none, none] ro w = .ok (.lst [stpD (cutS s1 q S1.length S2.length)]) w := fun w => by
          simp only [x_and, x_or, x_not, x_andT, x_orT, x_notT, x_tru, x_test, x_bin, x_un, x_tup, x_lst, x_call, x_call0, x_args, x_args0, x_var, x_k, x_one, x_nil, x_if, List.getElem?_cons_zero, List.getElem?_cons_succ, ofO_ss, an_ok, List.length_cons, List.length_nil, Nat.zero_add, Nat.reduceAdd, if_true, Bool.false_eq_true, if_false, see_int, see_str, see_bl, see_lst, see_tup, see_non, bool_bl, truth_bl, st_ok, oan_nx, oan_rt, oan_bk, oan_ct, fin_rt, fin_nx, tn_nx, tn_rt, tn_ct, tn_bk, andV_bl, orV_bl, notV_bl, List.set_cons_succ, List.set_cons_zero, Bool.not_true, Bool.not_false, Bool.true_and, add_int, sub_int, eq_int, ne_int, lt_int, le_int, gt_int, ge_int, int_int, int_bl, len_lst, len_tup, List.map_cons, List.map_nil, List.length_map, x_one, st, ln]
          rfl
        have ab : ∀ w, cBin gAdd (cVar 0) (cVar 8) [some (stsD S1), some (stsD S2), some q.toD, some (fT s1.l), some (fT s1.r), some (.tup [fT s1.l, fT (cutR s1.r q)]), some (.bl true), some (.int (S1.length : Int)), some (stsD (S2.map (shiftS S1.length))), none, none, none] ro w = .ok (stsD (S1 ++ S2.map (shiftS S1.length))) w := fun w => by
          simp only [x_and, x_or, x_not, x_andT, x_orT, x_notT, x_tru, x_test, x_bin, x_un, x_tup, x_lst, x_call, x_call0, x_args, x_args0, x_var, x_k, x_one, x_nil, x_if, List.getElem?_cons_zero, List.getElem?_cons_succ, ofO_ss, an_ok, List.length_cons, List.length_nil, Nat.zero_add, Nat.reduceAdd, if_true, Bool.false_eq_true, if_false, see_int, see_str, see_bl, see_lst, see_tup, see_non, bool_bl, truth_bl, st_ok, oan_nx, oan_rt, oan_bk, oan_ct, fin_rt, fin_nx, tn_nx, tn_rt, tn_ct, tn_bk, andV_bl, orV_bl, notV_bl, List.set_cons_succ, List.set_cons_zero, Bool.not_true, Bool.not_false, Bool.true_and, add_int, sub_int, eq_int, ne_int, lt_int, le_int, gt_int, ge_int, int_int, int_bl, len_lst, len_tup, List.map_cons, List.map_nil, List.length_map, st, a1]
        rw [x_ret, x_bin, ab, an_ok, lc, an_ok, k1, st, a2]
        rfl
end
/-! ### the drawn goal -/
def cF (n : Nat) : EF := cCall (fun ds => if ds.length = 3 then ev n .f_law_formula ds else M.no) (cArgs [cVar 0, cK (.int 2), cVar 2])
theorem draws {n : Nat} (hn : 2 < n) {pl : Bool} {g : List D} : ∀ (ds : List D) (env : Fx.Env) (ms : List Int), env[0]? = some (some (.ref 0)) → env[2]? = some (some (.bl pl)) → ∃ (φs : List Fm) (ms' : List Int), φs.length = ds.length ∧ (∀ φ ∈ φs, φ.ht ≤ 3) ∧ (∀ φ ∈ φs, φ.Over SOk) ∧ (pl = true → ∀ φ ∈ φs, φ.plain = true) ∧ compR (.nm 6) cYes (cF n) env ds [] (.lst (ms.map .int) :: g) = .ok (φs.map Fm.toD) (.lst (ms'.map .int) :: g)
  | [], env, ms, _, _ => ⟨[], ms, rfl, by simp, by simp, by simp, rfl⟩
  | d :: ds, env, ms, he, hp => by
    obtain ⟨φ, m1, g1, ht, ho, hq⟩ := e_form (d := 2) (n := n) hn (.lst (ms.map .int) :: g) 0 ms pl rfl
    have g' : ev n .f_law_formula [.ref 0, .int 2, .bl pl] [] (.lst (ms.map .int) :: g) = .ok φ.toD (.lst (m1.map .int) :: g) := g1
    obtain ⟨φs, m2, l, h1, h2, h3, k⟩ := draws hn ds env m1 he hp
    refine ⟨φ :: φs, m2, by rw [List.length_cons, List.length_cons, l], fun ψ hψ => ?_, fun ψ hψ => ?_, fun e ψ hψ => ?_, ?_⟩
    · rcases List.mem_cons.mp hψ with rfl | hψ
      · exact ht
      · exact h1 ψ hψ
    · rcases List.mem_cons.mp hψ with rfl | hψ
      · exact Fm.Over.mono (fun x h => pqr_ok x h) ψ ho
      · exact h2 ψ hψ
    · rcases List.mem_cons.mp hψ with rfl | hψ
      · exact hq e
      · exact h3 e ψ hψ
    have he' : (env.set 6 (some d))[0]? = some (some (.ref 0)) := by rw [List.getElem?_set_ne (by decide)]; exact he
    have hp' : (env.set 6 (some d))[2]? = some (some (.bl pl)) := by rw [List.getElem?_set_ne (by decide)]; exact hp
    have st : cF n (env.set 6 (some d)) [] (.lst (ms.map .int) :: g) = .ok φ.toD (.lst (m1.map .int) :: g) := by
      unfold cF
      simp only [x_and, x_or, x_not, x_andT, x_orT, x_notT, x_tru, x_test, x_bin, x_un, x_tup, x_lst, x_call, x_call0, x_args, x_args0, x_var, x_k, x_one, x_nil, x_if, List.getElem?_cons_zero, List.getElem?_cons_succ, ofO_ss, an_ok, List.length_cons, List.length_nil, Nat.zero_add, Nat.reduceAdd, if_true, Bool.false_eq_true, if_false, see_int, see_str, see_bl, see_lst, see_tup, see_non, bool_bl, truth_bl, st_ok, oan_nx, oan_rt, oan_bk, oan_ct, fin_rt, fin_nx, tn_nx, tn_rt, tn_ct, tn_bk, andV_bl, orV_bl, notV_bl, List.set_cons_succ, List.set_cons_zero, Bool.not_true, Bool.not_false, Bool.true_and, add_int, sub_int, eq_int, ne_int, lt_int, le_int, gt_int, ge_int, int_int, int_bl, len_lst, len_tup, List.map_cons, List.map_nil, List.length_map, he', hp', g']
    rw [comp_nm]
    simp only [x_yes, calm_ok', an_ok, if_true, st, List.map_cons, x_pure]
    rw [k]
    rfl
/-- a drawn side -/
structure Dr (pl : Bool) (l : List Fm) : Prop where
  ht : ∀ φ ∈ l, φ.ht ≤ 3
  ov : ∀ φ ∈ l, φ.Over SOk
  few : l.length ≤ 3
  pl : pl = true → ∀ φ ∈ l, φ.plain = true
theorem Dr.fs {pl : Bool} {l : List Fm} (h : Dr pl l) : Fs l := ⟨fun φ hφ => Nat.le_trans (h.ht φ hφ) (by decide), h.ov, Nat.le_trans h.few (by decide)⟩
theorem Dr.as {pl : Bool} {l : List Fm} (h : Dr pl l) : Dr pl (As l) := ⟨fun φ hφ => h.ht φ ((asc_mem fmS).mp hφ), fun φ hφ => h.ov φ ((asc_mem fmS).mp hφ), Nat.le_trans (asc_short fmS l) h.few, fun e φ hφ => h.pl e φ ((asc_mem fmS).mp hφ)⟩
abbrev gE (mo : Int) (pl : Bool) (e3 e4 e5 : Option D) : Fx.Env := [some (.ref 0), some (.int mo), some (.bl pl), e3, e4, e5, none]
def sTurn (n : Nat) : SF := sSeq (sSet 5 (cK (.int 1)))
  (sSeq (sIf (cTest (cBin gNe (cVar 0) (cLst (cArgs [])))) (sSet 5 (cBin gMod (cCall (one gInt) (cArgs [cMl gPopAt (cVar 0) (cArgs [cK (.int 0)])])) (cBin gAdd (cVar 1) (cK (.int 1))))) (sNil))
  (sExpr (cMl gAppend (cVar 3) (cArgs [cCall (one gTuple) (cArgs [cCall (one gSSK) (cArgs [cComp (.nm 6) [6] (cRng1 (cArgs [cVar 5])) (cYes) (cF n) kStill])])]))))
theorem turn_ok {n : Nat} (hn : 2 < n) {mo : Int} (hmo : 1 ≤ mo ∧ mo.natAbs ≤ 3) {pl : Bool} {k : D} {e5 : Option D} (ms : List Int) (ls : List D) (hl : ls.length ≤ 4) : ∃ (l : List Fm) (ms' : List Int) (e : Option D), Dr pl l ∧ sTurn n (gE mo pl (some (.ref 1)) (some k) e5) [] [.lst (ms.map .int), .lst ls] = .go .nx (gE mo pl (some (.ref 1)) (some k) e) [.lst (ms'.map .int), .lst (ls ++ [fT (As l)])] := by
  have hs : sizeLine = 16777216 := rfl
  have s0 : ∀ (xs : List Int) w2, see [] (.lst (xs.map .int) :: w2) (.ref 0) = .lst (xs.map .int) := fun _ _ => rfl
  -- how many
  obtain ⟨c, ms1, hc, hst⟩ : ∃ (c : Nat) (ms1 : List Int), c ≤ 3 ∧ (sIf (cTest (cBin gNe (cVar 0) (cLst (cArgs [])))) (sSet 5 (cBin gMod (cCall (one gInt) (cArgs [cMl gPopAt (cVar 0) (cArgs [cK (.int 0)])])) (cBin gAdd (cVar 1) (cK (.int 1))))) (sNil)) (gE mo pl (some (.ref 1)) (some k) (some (.int 1))) [] [.lst (ms.map .int), .lst ls] = .go .nx (gE mo pl (some (.ref 1)) (some k) (some (.int (c : Int)))) [.lst (ms1.map .int), .lst ls] := by
    cases ms with
    | nil =>
      refine ⟨1, [], by decide, ?_⟩
      have ne : ∀ w, gNe (.lst []) (.lst []) [] w = .ok (.bl false) w := fun w => by rw [ne_eqo (eqo_of rfl rfl (by decide)) (eqo_of rfl rfl (by decide))]; simp
      rw [x_ifS]
      have s0' : ∀ w2, see [] (D.lst [] :: w2) (.ref 0) = .lst [] := fun _ => rfl
      simp only [x_and, x_or, x_not, x_andT, x_orT, x_notT, x_tru, x_test, x_bin, x_un, x_tup, x_lst, x_call, x_call0, x_args, x_args0, x_var, x_k, x_one, x_nil, x_if, List.getElem?_cons_zero, List.getElem?_cons_succ, ofO_ss, an_ok, List.length_cons, List.length_nil, Nat.zero_add, Nat.reduceAdd, if_true, Bool.false_eq_true, if_false, see_int, see_str, see_bl, see_lst, see_tup, see_non, bool_bl, truth_bl, st_ok, oan_nx, oan_rt, oan_bk, oan_ct, fin_rt, fin_nx, tn_nx, tn_rt, tn_ct, tn_bk, andV_bl, orV_bl, notV_bl, List.set_cons_succ, List.set_cons_zero, Bool.not_true, Bool.not_false, Bool.true_and, add_int, sub_int, eq_int, ne_int, lt_int, le_int, gt_int, ge_int, int_int, int_bl, len_lst, len_tup, List.map_cons, List.map_nil, List.length_map, s0', ne, x_nil]
      rfl
    | cons x xs =>
      have p0 : 0 ≤ x % (mo + 1) ∧ x % (mo + 1) < mo + 1 := ⟨Int.emod_nonneg x (by omega), Int.emod_lt_of_pos x (by omega)⟩
      obtain ⟨c, hc⟩ := Int.eq_ofNat_of_zero_le p0.1
      refine ⟨c, xs, by omega, ?_⟩
      have ne : ∀ w, gNe (.lst (.int x :: xs.map .int)) (.lst []) [] w = .ok (.bl true) w := fun w => by
        have e : (D.lst (.int x :: xs.map .int)).eqo = true := eqo_ints (ns := x :: xs)
        rw [ne_eqo e (eqo_of rfl rfl (by decide))]
        simp
      have s1 : ∀ w2, see [] (.lst (.int x :: xs.map .int) :: w2) (.ref 0) = .lst (.int x :: xs.map .int) := fun _ => rfl
      have hp := pop_at0 (w := [.lst (.int x :: xs.map .int), .lst ls]) (n := 0) rfl
      have hp' : gPopAt [.int 0] (.ref 0) [] [.lst (.int x :: xs.map .int), .lst ls] = .ok (.int x) [.lst (xs.map .int), .lst ls] := hp
      have md : ∀ w, gMod (.int x) (.int (mo + 1)) [] w = .ok (.int (c : Int)) w := fun w => by rw [mod_int, if_pos (by omega), hc]
      have mlv : ∀ ds (f : List D → Out D) w, mlV (.lst ds) f w = f w := fun _ _ _ => rfl
      rw [x_ifS]
      simp only [x_and, x_or, x_not, x_andT, x_orT, x_notT, x_tru, x_test, x_bin, x_un, x_tup, x_lst, x_call, x_call0, x_args, x_args0, x_var, x_k, x_one, x_nil, x_if, List.getElem?_cons_zero, List.getElem?_cons_succ, ofO_ss, an_ok, List.length_cons, List.length_nil, Nat.zero_add, Nat.reduceAdd, if_true, Bool.false_eq_true, if_false, see_int, see_str, see_bl, see_lst, see_tup, see_non, bool_bl, truth_bl, st_ok, oan_nx, oan_rt, oan_bk, oan_ct, fin_rt, fin_nx, tn_nx, tn_rt, tn_ct, tn_bk, andV_bl, orV_bl, notV_bl, List.set_cons_succ, List.set_cons_zero, Bool.not_true, Bool.not_false, Bool.true_and, add_int, sub_int, eq_int, ne_int, lt_int, le_int, gt_int, ge_int, int_int, int_bl, len_lst, len_tup, List.map_cons, List.map_nil, List.length_map, s1, ne]
      rw [x_set]
      simp only [x_and, x_or, x_not, x_andT, x_orT, x_notT, x_tru, x_test, x_bin, x_un, x_tup, x_lst, x_call, x_call0, x_args, x_args0, x_var, x_k, x_one, x_nil, x_if, List.getElem?_cons_zero, List.getElem?_cons_succ, ofO_ss, an_ok, List.length_cons, List.length_nil, Nat.zero_add, Nat.reduceAdd, if_true, Bool.false_eq_true, if_false, see_int, see_str, see_bl, see_lst, see_tup, see_non, bool_bl, truth_bl, st_ok, oan_nx, oan_rt, oan_bk, oan_ct, fin_rt, fin_nx, tn_nx, tn_rt, tn_ct, tn_bk, andV_bl, orV_bl, notV_bl, List.set_cons_succ, List.set_cons_zero, Bool.not_true, Bool.not_false, Bool.true_and, add_int, sub_int, eq_int, ne_int, lt_int, le_int, gt_int, ge_int, int_int, int_bl, len_lst, len_tup, List.map_cons, List.map_nil, List.length_map, x_one, x_ml, s1, mlv, hp', md]
  obtain ⟨φs, ms2, hl2, h1, h2, h3, cp⟩ := draws hn (pl := pl) (g := [.lst ls]) ((List.range c).map nD) (gE mo pl (some (.ref 1)) (some k) (some (.int (c : Int)))) ms1 rfl rfl
  rw [List.length_map, List.length_range] at hl2
  have fs : Fs φs := ⟨fun φ hφ => Nat.le_trans (h1 φ hφ) (by decide), h2, by omega⟩
  refine ⟨φs, ms2, some (.int (c : Int)), ⟨h1, h2, by omega, h3⟩, ?_⟩
  unfold sTurn
  rw [x_seq, x_set]
  simp only [x_and, x_or, x_not, x_andT, x_orT, x_notT, x_tru, x_test, x_bin, x_un, x_tup, x_lst, x_call, x_call0, x_args, x_args0, x_var, x_k, x_one, x_nil, x_if, List.getElem?_cons_zero, List.getElem?_cons_succ, ofO_ss, an_ok, List.length_cons, List.length_nil, Nat.zero_add, Nat.reduceAdd, if_true, Bool.false_eq_true, if_false, see_int, see_str, see_bl, see_lst, see_tup, see_non, bool_bl, truth_bl, st_ok, oan_nx, oan_rt, oan_bk, oan_ct, fin_rt, fin_nx, tn_nx, tn_rt, tn_ct, tn_bk, andV_bl, orV_bl, notV_bl, List.set_cons_succ, List.set_cons_zero, Bool.not_true, Bool.not_false, Bool.true_and, add_int, sub_int, eq_int, ne_int, lt_int, le_int, gt_int, ge_int, int_int, int_bl, len_lst, len_tup, List.map_cons, List.map_nil, List.length_map]
  have hst' := hst
  rw [x_seq, hst', oan_nx]
  have rg : cRng1 (cArgs [cVar 5]) (gE mo pl (some (.ref 1)) (some k) (some (.int (c : Int)))) [] [.lst (ms1.map .int), .lst ls] = .ok ((List.range c).map nD) [.lst (ms1.map .int), .lst ls] := by
    rw [x_rng1]
    simp only [x_and, x_or, x_not, x_andT, x_orT, x_notT, x_tru, x_test, x_bin, x_un, x_tup, x_lst, x_call, x_call0, x_args, x_args0, x_var, x_k, x_one, x_nil, x_if, List.getElem?_cons_zero, List.getElem?_cons_succ, ofO_ss, an_ok, List.length_cons, List.length_nil, Nat.zero_add, Nat.reduceAdd, if_true, Bool.false_eq_true, if_false, see_int, see_str, see_bl, see_lst, see_tup, see_non, bool_bl, truth_bl, st_ok, oan_nx, oan_rt, oan_bk, oan_ct, fin_rt, fin_nx, tn_nx, tn_rt, tn_ct, tn_bk, andV_bl, orV_bl, notV_bl, List.set_cons_succ, List.set_cons_zero, Bool.not_true, Bool.not_false, Bool.true_and, add_int, sub_int, eq_int, ne_int, lt_int, le_int, gt_int, ge_int, int_int, int_bl, len_lst, len_tup, List.map_cons, List.map_nil, List.length_map]
    exact (rng1_nat (by omega)).trans (by rw [rngD_nat])
  have cc : cComp (.nm 6) [6] (cRng1 (cArgs [cVar 5])) (cYes) (cF n) kStill (gE mo pl (some (.ref 1)) (some k) (some (.int (c : Int)))) [] [.lst (ms1.map .int), .lst ls] = .ok (fL φs) [.lst (ms2.map .int), .lst ls] := by
    rw [x_comp, rg, an_ok, if_pos (by rw [List.length_map, List.length_range]; omega)]
    rw [show wipeE (gE mo pl (some (.ref 1)) (some k) (some (.int (c : Int)))) [6] = gE mo pl (some (.ref 1)) (some k) (some (.int (c : Int))) from rfl, cp, an_ok, x_still]
  have sk := fun w => fs.sskL (ro := []) (w := w)
  have tp : ∀ l w, gTuple (fL l) [] w = .ok (fT l) w := fun _ _ => rfl
  have sn : ∀ l w, see [] w (fL l) = fL l := fun _ _ => rfl
  have ap : gAppend [fT (As φs)] (.ref 1) [] [.lst (ms2.map .int), .lst ls] = .ok .non [.lst (ms2.map .int), .lst (ls ++ [fT (As φs)])] := by
    exact append_at (ro := []) (w := [.lst (ms2.map .int), .lst ls]) (n := 1) (ds := ls) rfl (by omega)
  have mlv : ∀ ds (f : List D → Out D) w, mlV (.lst ds) f w = f w := fun _ _ _ => rfl
  have s3 : see [] [.lst (ms1.map .int), .lst ls] (.ref 1) = .lst ls := rfl
  rw [x_expr, x_ml, show cVar 3 (gE mo pl (some (.ref 1)) (some k) (some (.int (c : Int)))) [] [.lst (ms1.map .int), .lst ls] = .ok (.ref 1) [.lst (ms1.map .int), .lst ls] from rfl, an_ok, s3, mlv, x_args, x_call, x_args, x_call, x_args, cc]
  simp only [x_and, x_or, x_not, x_andT, x_orT, x_notT, x_tru, x_test, x_bin, x_un, x_tup, x_lst, x_call, x_call0, x_args, x_args0, x_var, x_k, x_one, x_nil, x_if, List.getElem?_cons_zero, List.getElem?_cons_succ, ofO_ss, an_ok, List.length_cons, List.length_nil, Nat.zero_add, Nat.reduceAdd, if_true, Bool.false_eq_true, if_false, see_int, see_str, see_bl, see_lst, see_tup, see_non, bool_bl, truth_bl, st_ok, oan_nx, oan_rt, oan_bk, oan_ct, fin_rt, fin_nx, tn_nx, tn_rt, tn_ct, tn_bk, andV_bl, orV_bl, notV_bl, List.set_cons_succ, List.set_cons_zero, Bool.not_true, Bool.not_false, Bool.true_and, add_int, sub_int, eq_int, ne_int, lt_int, le_int, gt_int, ge_int, int_int, int_bl, len_lst, len_tup, List.map_cons, List.map_nil, List.length_map, x_one, sn, sk, tp, ap]
theorem e_goal {n : Nat} (hn : 2 < n) {mo : Int} (hmo : 1 ≤ mo ∧ mo.natAbs ≤ 3) {pl : Bool} (ms : List Int) : ∃ (l r : List Fm) (ms' : List Int), Dr pl l ∧ Dr pl r ∧ As l = l ∧ As r = r ∧ ev (n + 1) .f_law_goal [.ref 0, .int mo, .bl pl] [] [.lst (ms.map .int)] = .ok (.tup [fT l, fT r]) [.lst (ms'.map .int), .lst [fT l, fT r]] := by
  obtain ⟨l, m1, e1, f1, t1⟩ := turn_ok hn hmo (pl := pl) (k := nD 0) (e5 := none) ms [] (by simp)
  obtain ⟨r, m2, e2, f2, t2⟩ := turn_ok hn hmo (pl := pl) (k := nD 1) (e5 := e1) m1 [fT (As l)] (by simp)
  refine ⟨As l, As r, m2, f1.as, f2.as, asc_asc fmS l, asc_asc fmS r, ?_⟩
  rw [q_law_goal, x_def]
  simp only [List.length_cons, List.length_nil, Nat.zero_add, Nat.reduceAdd, if_true, List.map_cons, List.map_nil, Nat.reduceSub, List.replicate, List.cons_append, List.nil_append, List.append_nil]
  unfold sTurn cF at t1 t2
  unfold b_law_goal
  rw [x_seq, x_set, x_lstM]
  simp only [x_and, x_or, x_not, x_andT, x_orT, x_notT, x_tru, x_test, x_bin, x_un, x_tup, x_lst, x_call, x_call0, x_args, x_args0, x_var, x_k, x_one, x_nil, x_if, List.getElem?_cons_zero, List.getElem?_cons_succ, ofO_ss, an_ok, List.length_cons, List.length_nil, Nat.zero_add, Nat.reduceAdd, if_true, Bool.false_eq_true, if_false, see_int, see_str, see_bl, see_lst, see_tup, see_non, bool_bl, truth_bl, st_ok, oan_nx, oan_rt, oan_bk, oan_ct, fin_rt, fin_nx, tn_nx, tn_rt, tn_ct, tn_bk, andV_bl, orV_bl, notV_bl, List.set_cons_succ, List.set_cons_zero, Bool.not_true, Bool.not_false, Bool.true_and, add_int, sub_int, eq_int, ne_int, lt_int, le_int, gt_int, ge_int, int_int, int_bl, len_lst, len_tup, List.map_cons, List.map_nil, List.length_map]
  have rg : ∀ env w, cRng1 (cArgs [cK (.int 2)]) env [] w = .ok [nD 0, nD 1] w := fun env w => by
    rw [x_rng1]
    simp only [x_args, x_args0, x_k, an_ok]
    exact (rng1_nat (n := 2) (by decide)).trans (by rw [rngD_nat]; rfl)
  have t1' := t1
  have t2' := t2
  rw [x_seq, x_for, rg, st_ok, for_nm]
  simp only [List.set_cons_succ, List.set_cons_zero, List.cons_append, List.nil_append]
  rw [t1', tn_nx, for_nm]
  simp only [List.set_cons_succ, List.set_cons_zero, List.cons_append, List.nil_append]
  rw [t2', tn_nx, for_nil, oan_nx, x_ret]
  have s3 : ∀ (a b : D) (p : D), see [] [p, .lst ([a] ++ [b])] (.ref 1) = .lst [a, b] := fun _ _ _ => rfl
  have i0 : ∀ (a b : D) w, gIx (.lst [a, b]) (.int 0) [] w = .ok a w := fun _ _ _ => rfl
  have i1 : ∀ (a b : D) w, gIx (.lst [a, b]) (.int 1) [] w = .ok b w := fun _ _ _ => rfl
  simp only [x_and, x_or, x_not, x_andT, x_orT, x_notT, x_tru, x_test, x_bin, x_un, x_tup, x_lst, x_call, x_call0, x_args, x_args0, x_var, x_k, x_one, x_nil, x_if, List.getElem?_cons_zero, List.getElem?_cons_succ, ofO_ss, an_ok, List.length_cons, List.length_nil, Nat.zero_add, Nat.reduceAdd, if_true, Bool.false_eq_true, if_false, see_int, see_str, see_bl, see_lst, see_tup, see_non, bool_bl, truth_bl, st_ok, oan_nx, oan_rt, oan_bk, oan_ct, fin_rt, fin_nx, tn_nx, tn_rt, tn_ct, tn_bk, andV_bl, orV_bl, notV_bl, List.set_cons_succ, List.set_cons_zero, Bool.not_true, Bool.not_false, Bool.true_and, add_int, sub_int, eq_int, ne_int, lt_int, le_int, gt_int, ge_int, int_int, int_bl, len_lst, len_tup, List.map_cons, List.map_nil, List.length_map, s3, i0, i1]
  rfl
theorem e_logic {n : Nat} {a : Int} {b : Bool} {ro w : List D} : ∃ x : Str, SOk x ∧ memB nameL x = true ∧ (memB interL x = true → b = true) ∧ ev (n + 1) .f_law_logic [.int a, .bl b] ro w = .ok (.str x) w := by
  have key : ∀ (j : Nat), j < 15 → ∃ x : Str, SOk x ∧ memB nameL x = true ∧ (j < 9 → memB interL x = false) ∧ ∀ w, gIx (.lst [.str "K", .str "D", .str "T", .str "K4", .str "D4", .str "S4", .str "S5", .str "GL", .str "Grz", .str "Int", .str "KC", .str "LC", .str "BD2", .str "HT", .str "Cl"]) (.int (j : Int)) ro w = .ok (.str x) w := fun j hj => by
    match j, hj with
    | 0, _ => exact ⟨"K", ok_lit, rfl, fun _ => rfl, fun _ => rfl⟩
    | 1, _ => exact ⟨"D", ok_lit, rfl, fun _ => rfl, fun _ => rfl⟩
    | 2, _ => exact ⟨"T", ok_lit, rfl, fun _ => rfl, fun _ => rfl⟩
    | 3, _ => exact ⟨"K4", ok_lit, rfl, fun _ => rfl, fun _ => rfl⟩
    | 4, _ => exact ⟨"D4", ok_lit, rfl, fun _ => rfl, fun _ => rfl⟩
    | 5, _ => exact ⟨"S4", ok_lit, rfl, fun _ => rfl, fun _ => rfl⟩
    | 6, _ => exact ⟨"S5", ok_lit, rfl, fun _ => rfl, fun _ => rfl⟩
    | 7, _ => exact ⟨"GL", ok_lit, rfl, fun _ => rfl, fun _ => rfl⟩
    | 8, _ => exact ⟨"Grz", ok_lit, rfl, fun _ => rfl, fun _ => rfl⟩
    | 9, _ => exact ⟨"Int", ok_lit, rfl, fun h => absurd h (by decide), fun _ => rfl⟩
    | 10, _ => exact ⟨"KC", ok_lit, rfl, fun h => absurd h (by decide), fun _ => rfl⟩
    | 11, _ => exact ⟨"LC", ok_lit, rfl, fun h => absurd h (by decide), fun _ => rfl⟩
    | 12, _ => exact ⟨"BD2", ok_lit, rfl, fun h => absurd h (by decide), fun _ => rfl⟩
    | 13, _ => exact ⟨"HT", ok_lit, rfl, fun h => absurd h (by decide), fun _ => rfl⟩
    | 14, _ => exact ⟨"Cl", ok_lit, rfl, fun h => absurd h (by decide), fun _ => rfl⟩
  have pos : ∀ k : Int, 0 < k ∧ k ≤ 15 → ∃ j : Nat, a % k = j ∧ (j : Int) < k := fun k hk => by
    have h1 := Int.emod_nonneg a (show k ≠ 0 by omega)
    have h2 := Int.emod_lt_of_pos a hk.1
    exact ⟨(a % k).toNat, by omega, by omega⟩
  cases b with
  | true =>
    obtain ⟨j, hj, lj⟩ := pos 15 (by decide)
    obtain ⟨x, h1, h2, h3, ix⟩ := key j (by omega)
    have md : ∀ w, gMod (.int a) (.int 15) ro w = .ok (.int (j : Int)) w := fun w => by rw [mod_int, if_pos (by decide), hj]
    refine ⟨x, h1, h2, fun _ => rfl, ?_⟩
    rw [q_law_logic, x_def]
    simp only [List.length_cons, List.length_nil, Nat.zero_add, Nat.reduceAdd, if_true, List.map_cons, List.map_nil, Nat.reduceSub, List.replicate, List.cons_append, List.nil_append, List.append_nil]
    unfold b_law_logic
    rw [x_seq, x_set]
    simp only [x_and, x_or, x_not, x_andT, x_orT, x_notT, x_tru, x_test, x_bin, x_un, x_tup, x_lst, x_call, x_call0, x_args, x_args0, x_var, x_k, x_one, x_nil, x_if, List.getElem?_cons_zero, List.getElem?_cons_succ, ofO_ss, an_ok, List.length_cons, List.length_nil, Nat.zero_add, Nat.reduceAdd, if_true, Bool.false_eq_true, if_false, see_int, see_str, see_bl, see_lst, see_tup, see_non, bool_bl, truth_bl, st_ok, oan_nx, oan_rt, oan_bk, oan_ct, fin_rt, fin_nx, tn_nx, tn_rt, tn_ct, tn_bk, andV_bl, orV_bl, notV_bl, List.set_cons_succ, List.set_cons_zero, Bool.not_true, Bool.not_false, Bool.true_and, add_int, sub_int, eq_int, ne_int, lt_int, le_int, gt_int, ge_int, int_int, int_bl, len_lst, len_tup, List.map_cons, List.map_nil, List.length_map]
    rw [x_seq, x_ifS]
    simp only [x_and, x_or, x_not, x_andT, x_orT, x_notT, x_tru, x_test, x_bin, x_un, x_tup, x_lst, x_call, x_call0, x_args, x_args0, x_var, x_k, x_one, x_nil, x_if, List.getElem?_cons_zero, List.getElem?_cons_succ, ofO_ss, an_ok, List.length_cons, List.length_nil, Nat.zero_add, Nat.reduceAdd, if_true, Bool.false_eq_true, if_false, see_int, see_str, see_bl, see_lst, see_tup, see_non, bool_bl, truth_bl, st_ok, oan_nx, oan_rt, oan_bk, oan_ct, fin_rt, fin_nx, tn_nx, tn_rt, tn_ct, tn_bk, andV_bl, orV_bl, notV_bl, List.set_cons_succ, List.set_cons_zero, Bool.not_true, Bool.not_false, Bool.true_and, add_int, sub_int, eq_int, ne_int, lt_int, le_int, gt_int, ge_int, int_int, int_bl, len_lst, len_tup, List.map_cons, List.map_nil, List.length_map]
    rw [x_ret]
    simp only [x_and, x_or, x_not, x_andT, x_orT, x_notT, x_tru, x_test, x_bin, x_un, x_tup, x_lst, x_call, x_call0, x_args, x_args0, x_var, x_k, x_one, x_nil, x_if, List.getElem?_cons_zero, List.getElem?_cons_succ, ofO_ss, an_ok, List.length_cons, List.length_nil, Nat.zero_add, Nat.reduceAdd, if_true, Bool.false_eq_true, if_false, see_int, see_str, see_bl, see_lst, see_tup, see_non, bool_bl, truth_bl, st_ok, oan_nx, oan_rt, oan_bk, oan_ct, fin_rt, fin_nx, tn_nx, tn_rt, tn_ct, tn_bk, andV_bl, orV_bl, notV_bl, List.set_cons_succ, List.set_cons_zero, Bool.not_true, Bool.not_false, Bool.true_and, add_int, sub_int, eq_int, ne_int, lt_int, le_int, gt_int, ge_int, int_int, int_bl, len_lst, len_tup, List.map_cons, List.map_nil, List.length_map, x_one, md, ix]
  | false =>
    obtain ⟨j, hj, lj⟩ := pos 9 (by decide)
    obtain ⟨x, h1, h2, h3, ix⟩ := key j (by omega)
    have md : ∀ w, gMod (.int a) (.int 9) ro w = .ok (.int (j : Int)) w := fun w => by rw [mod_int, if_pos (by decide), hj]
    refine ⟨x, h1, h2, fun e => (by rw [h3 (by omega)] at e; cases e), ?_⟩
    rw [q_law_logic, x_def]
    simp only [List.length_cons, List.length_nil, Nat.zero_add, Nat.reduceAdd, if_true, List.map_cons, List.map_nil, Nat.reduceSub, List.replicate, List.cons_append, List.nil_append, List.append_nil]
    unfold b_law_logic
    rw [x_seq, x_set]
    simp only [x_and, x_or, x_not, x_andT, x_orT, x_notT, x_tru, x_test, x_bin, x_un, x_tup, x_lst, x_call, x_call0, x_args, x_args0, x_var, x_k, x_one, x_nil, x_if, List.getElem?_cons_zero, List.getElem?_cons_succ, ofO_ss, an_ok, List.length_cons, List.length_nil, Nat.zero_add, Nat.reduceAdd, if_true, Bool.false_eq_true, if_false, see_int, see_str, see_bl, see_lst, see_tup, see_non, bool_bl, truth_bl, st_ok, oan_nx, oan_rt, oan_bk, oan_ct, fin_rt, fin_nx, tn_nx, tn_rt, tn_ct, tn_bk, andV_bl, orV_bl, notV_bl, List.set_cons_succ, List.set_cons_zero, Bool.not_true, Bool.not_false, Bool.true_and, add_int, sub_int, eq_int, ne_int, lt_int, le_int, gt_int, ge_int, int_int, int_bl, len_lst, len_tup, List.map_cons, List.map_nil, List.length_map]
    rw [x_seq, x_ifS]
    simp only [x_and, x_or, x_not, x_andT, x_orT, x_notT, x_tru, x_test, x_bin, x_un, x_tup, x_lst, x_call, x_call0, x_args, x_args0, x_var, x_k, x_one, x_nil, x_if, List.getElem?_cons_zero, List.getElem?_cons_succ, ofO_ss, an_ok, List.length_cons, List.length_nil, Nat.zero_add, Nat.reduceAdd, if_true, Bool.false_eq_true, if_false, see_int, see_str, see_bl, see_lst, see_tup, see_non, bool_bl, truth_bl, st_ok, oan_nx, oan_rt, oan_bk, oan_ct, fin_rt, fin_nx, tn_nx, tn_rt, tn_ct, tn_bk, andV_bl, orV_bl, notV_bl, List.set_cons_succ, List.set_cons_zero, Bool.not_true, Bool.not_false, Bool.true_and, add_int, sub_int, eq_int, ne_int, lt_int, le_int, gt_int, ge_int, int_int, int_bl, len_lst, len_tup, List.map_cons, List.map_nil, List.length_map, x_nil]
    rw [x_ret]
    simp only [x_and, x_or, x_not, x_andT, x_orT, x_notT, x_tru, x_test, x_bin, x_un, x_tup, x_lst, x_call, x_call0, x_args, x_args0, x_var, x_k, x_one, x_nil, x_if, List.getElem?_cons_zero, List.getElem?_cons_succ, ofO_ss, an_ok, List.length_cons, List.length_nil, Nat.zero_add, Nat.reduceAdd, if_true, Bool.false_eq_true, if_false, see_int, see_str, see_bl, see_lst, see_tup, see_non, bool_bl, truth_bl, st_ok, oan_nx, oan_rt, oan_bk, oan_ct, fin_rt, fin_nx, tn_nx, tn_rt, tn_ct, tn_bk, andV_bl, orV_bl, notV_bl, List.set_cons_succ, List.set_cons_zero, Bool.not_true, Bool.not_false, Bool.true_and, add_int, sub_int, eq_int, ne_int, lt_int, le_int, gt_int, ge_int, int_int, int_bl, len_lst, len_tup, List.map_cons, List.map_nil, List.length_map, x_one, md, ix]
/-! ### numbers, models -/
theorem plain_iff : ∀ {φ : Fm}, φ.plain = true ↔ Fo.md φ = 0
  | .fal => by simp [Fm.plain, Fo.md]
  | .var _ => by simp [Fm.plain, Fo.md]
  | .imp a b => by simp only [Fm.plain, Bool.and_eq_true, Fo.md, plain_iff (φ := a), plain_iff (φ := b)]; omega
  | .and a b => by simp only [Fm.plain, Bool.and_eq_true, Fo.md, plain_iff (φ := a), plain_iff (φ := b)]; omega
  | .or a b => by simp only [Fm.plain, Bool.and_eq_true, Fo.md, plain_iff (φ := a), plain_iff (φ := b)]; omega
  | .box a => by simp [Fm.plain, Fo.md]
/-- the premises are sorted sides -/
theorem prem_fs {mo cl : Bool} {l r : List Fm} {m : Option Fm} {i : Nat} {ps : PsL} (S : Sd l r m) (h : prem mo cl l r i m = some ps) : ps.length ≤ 2 ∧ ∀ p ∈ ps, Fs p.1 ∧ Fs p.2 := by
  have al : ∀ {k : List Fm}, (∀ φ ∈ k, φ.ht ≤ 4 ∧ φ.Over SOk) → k.length ≤ 2 → Fs (As (l ++ k)) := fun h1 h2 => (S.sl.app S.ll h1 h2).as
  have ar : ∀ {k : List Fm}, (∀ φ ∈ k, φ.ht ≤ 4 ∧ φ.Over SOk) → k.length ≤ 2 → Fs (As (r ++ k)) := fun h1 h2 => (S.sr.app S.rl h1 h2).as
  have two : ∀ {p q : List Fm × List Fm}, (Fs p.1 ∧ Fs p.2) → (Fs q.1 ∧ Fs q.2) → ∀ z ∈ [p, q], Fs z.1 ∧ Fs z.2 := fun h1 h2 z hz => by
    simp only [List.mem_cons, List.not_mem_nil, or_false] at hz
    rcases hz with rfl | rfl
    · exact h1
    · exact h2
  have one : ∀ {p : List Fm × List Fm}, (Fs p.1 ∧ Fs p.2) → ∀ z ∈ [p], Fs z.1 ∧ Fs z.2 := fun h1 z hz => by
    rw [List.mem_singleton.mp hz]
    exact h1
  unfold prem at h
  split at h
  · split at h
    · cases h
      exact ⟨by decide, by simp⟩
    · cases h
  · split at h
    · cases h
      exact ⟨by decide, by simp⟩
    · cases h
  · rename_i φ
    have pf := one_in (a := φ) ⟨S.m.ht φ rfl, S.m.ov φ rfl⟩
    split at h
    · cases h
      exact ⟨by simp, two ⟨S.sl, ar pf (by simp)⟩ ⟨al pf (by simp), S.sr⟩⟩
    · cases h
  · obtain ⟨pa, pb⟩ := part_l (.inl rfl) S.m
    split at h
    · cases h
      exact ⟨by simp, one ⟨al (two_in pa pb) (by simp), S.sr⟩⟩
    · cases h
  · obtain ⟨pa, pb⟩ := part_l (.inl rfl) S.m
    split at h
    · cases h
      exact ⟨by simp, two ⟨S.sl, ar (one_in pa) (by simp)⟩ ⟨S.sl, ar (one_in pb) (by simp)⟩⟩
    · cases h
  · obtain ⟨pa, pb⟩ := part_l (.inr (.inl rfl)) S.m
    split at h
    · cases h
      exact ⟨by simp, two ⟨al (one_in pa) (by simp), S.sr⟩ ⟨al (one_in pb) (by simp), S.sr⟩⟩
    · cases h
  · obtain ⟨pa, pb⟩ := part_l (.inr (.inl rfl)) S.m
    split at h
    · cases h
      exact ⟨by simp, one ⟨S.sl, ar (two_in pa pb) (by simp)⟩⟩
    · cases h
  · obtain ⟨pa, pb⟩ := part_l (.inr (.inr rfl)) S.m
    split at h
    · cases h
      exact ⟨by simp, two ⟨S.sl, ar (one_in pa) (by simp)⟩ ⟨al (one_in pb) (by simp), S.sr⟩⟩
    · cases h
  · obtain ⟨pa, pb⟩ := part_l (.inr (.inr rfl)) S.m
    split at h
    · split at h
      · cases h
        exact ⟨by simp, one ⟨al (one_in pa) (by simp), ar (one_in pb) (by simp)⟩⟩
      · cases h
        exact ⟨by simp, one ⟨al (one_in pa) (by simp), ⟨fun ψ hψ => (one_in pb ψ hψ).1, fun ψ hψ => (one_in pb ψ hψ).2, by simp⟩⟩⟩
    · cases h
  · cases h
theorem in_rules {x : Str} (h : memB nameL x = true) : memB modalL x = true ∨ memB interL x = true := by
  rw [memB_iff] at h
  rw [memB_iff, memB_iff]
  have e : nameL = modalL ++ interL := rfl
  rw [e, List.mem_append] at h
  exact h
section
variable {n : Nat} {ro w : List D}
def P39 (x : Str) (s : Stp) : Option PsL := if s.rule = "axiom" then prem (memB modalL x) (decide (x = "Cl")) s.l s.r 0 s.m else prem (memB modalL x) (decide (x = "Cl")) s.l s.r 2 s.m
theorem prem_H {x : Str} {S : List Stp} (hx : SOk x) (hm : memB nameL x = true) (hS : AllS S) (hR : ∀ s ∈ S, s.rule = "axiom" ∨ s.rule = "weaken" ∨ s.rule = "cut") (hn : 8 < n) : PremH (n + 4) x (P39 x) S where
  run := fun s hs hw ro w => by
    have g := hS.good s hs
    unfold P39
    rcases hR s hs with h | h | h
    · rw [if_pos h, h]
      exact e_has (n := n + 3) (f := .f_axiom) (by omega) hx hm rfl rfl rfl fun w => e_axiom g.sd
    · exact (hw h).elim
    · rw [if_neg (by rw [h]; decide), h]
      exact e_has (n := n + 3) (f := .f_cut) (by omega) hx hm rfl rfl rfl fun w => e_cut hx g.sd (by omega)
  fs := fun s hs ps h => by
    have g := hS.good s hs
    unfold P39 at h
    split at h
    · exact (prem_fs g.sd h).2
    · exact (prem_fs g.sd h).2
theorem e_ladd {l k : List Fm} {d : D} (h : Fs (l ++ k)) (hd : d = fT k ∨ d = fL k) : ev (n + 1) .f_law_add [fT l, d] ro w = .ok (fT (As (l ++ k))) w := by
  have s := fun w => h.sskT (ro := ro) (w := w)
  have a := fun w => add_fT (ro := ro) (w := w) h
  have st : ∀ (t : List D) w, see ro w (D.tup t) = .tup t := fun _ _ => rfl
  have sd : ∀ w, see ro w d = d := fun w => by rcases hd with rfl | rfl <;> rfl
  have tp : ∀ w, gTuple d ro w = .ok (fT k) w := fun w => by rcases hd with rfl | rfl <;> rfl
  have tq : ∀ w, gTuple (fL (As (l ++ k))) ro w = .ok (fT (As (l ++ k))) w := fun _ => rfl
  rw [q_law_add, x_def]
  simp only [List.length_cons, List.length_nil, Nat.zero_add, Nat.reduceAdd, if_true, List.map_cons, List.map_nil, Nat.reduceSub, List.replicate, List.cons_append, List.nil_append, List.append_nil]
  unfold b_law_add
  rw [x_ret]
  simp only [x_and, x_or, x_not, x_andT, x_orT, x_notT, x_tru, x_test, x_bin, x_un, x_tup, x_lst, x_call, x_call0, x_args, x_args0, x_var, x_k, x_one, x_nil, x_if, List.getElem?_cons_zero, List.getElem?_cons_succ, ofO_ss, an_ok, List.length_cons, List.length_nil, Nat.zero_add, Nat.reduceAdd, if_true, Bool.false_eq_true, if_false, see_int, see_str, see_bl, see_lst, see_tup, see_non, bool_bl, truth_bl, st_ok, oan_nx, oan_rt, oan_bk, oan_ct, fin_rt, fin_nx, tn_nx, tn_rt, tn_ct, tn_bk, andV_bl, orV_bl, notV_bl, List.set_cons_succ, List.set_cons_zero, Bool.not_true, Bool.not_false, Bool.true_and, add_int, sub_int, eq_int, ne_int, lt_int, le_int, gt_int, ge_int, int_int, int_bl, len_lst, len_tup, List.map_cons, List.map_nil, List.length_map, x_one, sd, tp, st, a, s, see_lst, tq]
theorem e_lad1 {l : List Fm} {φ : Fm} (h : Fs (l ++ [φ])) : ev (n + 1) .f_law_add [fT l, .lst [φ.toD]] ro w = .ok (fT (As (l ++ [φ]))) w := e_ladd h (.inr rfl)
abbrev axS (sh : Fm) : Stp := ⟨"axiom", [sh], [sh], some sh, []⟩
abbrev wkS (l r : List Fm) (sh : Fm) : Stp := ⟨"weaken", As (l ++ [sh]), As (r ++ [sh]), none, [0]⟩
abbrev twoS (l r : List Fm) (sh : Fm) : List Stp := [axS sh, wkS l r sh]
/-- a short side -/
structure Sh (k : Nat) (l : List Fm) : Prop where
  ht : ∀ φ ∈ l, φ.ht ≤ 4
  ov : ∀ φ ∈ l, φ.Over SOk
  few : l.length ≤ k
theorem Sh.fs {k : Nat} {l : List Fm} (h : Sh k l) (hk : k ≤ 7) : Fs l := ⟨h.ht, h.ov, by have := h.few; omega⟩
theorem Sh.as {k : Nat} {l : List Fm} (h : Sh k l) : Sh k (As l) := ⟨fun φ hφ => h.ht φ ((asc_mem fmS).mp hφ), fun φ hφ => h.ov φ ((asc_mem fmS).mp hφ), Nat.le_trans (asc_short fmS l) h.few⟩
theorem Sh.snoc {k : Nat} {l : List Fm} {φ : Fm} (h : Sh k l) (h1 : φ.ht ≤ 4) (h2 : φ.Over SOk) : Sh (k + 1) (l ++ [φ]) := ⟨fun ψ hψ => by
    rcases List.mem_append.mp hψ with h' | h'
    · exact h.ht ψ h'
    · rw [List.mem_singleton.mp h']
      exact h1, fun ψ hψ => by
    rcases List.mem_append.mp hψ with h' | h'
    · exact h.ov ψ h'
    · rw [List.mem_singleton.mp h']
      exact h2, by rw [List.length_append]; have := h.few; simp; omega⟩
theorem Sh.cut {k : Nat} {l : List Fm} (h : Sh k l) (p : Fm → Bool) : Sh k (l.filter p) := ⟨fun φ hφ => h.ht φ (List.mem_filter.mp hφ).1, fun φ hφ => h.ov φ (List.mem_filter.mp hφ).1, Nat.le_trans (List.length_filter_le _ _) h.few⟩
theorem e_two {l r : List Fm} {sh : Fm} (hl : Fs (l ++ [sh])) (hr : Fs (r ++ [sh])) (hn : 0 < n) : ev (n + 1) .f_law_two [sqD (l, r), sh.toD] ro w = .ok (stsD (twoS l r sh)) w := by
  obtain ⟨k, rfl⟩ : ∃ k, n = k + 1 := ⟨n - 1, by omega⟩
  have a1 := fun w => e_lad1 (n := k) (ro := ro) (w := w) hl
  have a2 := fun w => e_lad1 (n := k) (ro := ro) (w := w) hr
  have st : ∀ (a b : D) w, see ro w (D.tup [a, b]) = .tup [a, b] := fun _ _ _ => rfl
  have i0 : ∀ (a b : D) w, gIx (.tup [a, b]) (.int 0) ro w = .ok a w := fun _ _ _ => rfl
  have i1 : ∀ (a b : D) w, gIx (.tup [a, b]) (.int 1) ro w = .ok b w := fun _ _ _ => rfl
  rw [q_law_two, x_def]
  simp only [List.length_cons, List.length_nil, Nat.zero_add, Nat.reduceAdd, if_true, List.map_cons, List.map_nil, Nat.reduceSub, List.replicate, List.cons_append, List.nil_append, List.append_nil]
  unfold b_law_two
  rw [x_seq, x_set]
  simp only [x_and, x_or, x_not, x_andT, x_orT, x_notT, x_tru, x_test, x_bin, x_un, x_tup, x_lst, x_call, x_call0, x_args, x_args0, x_var, x_k, x_one, x_nil, x_if, List.getElem?_cons_zero, List.getElem?_cons_succ, ofO_ss, an_ok, List.length_cons, List.length_nil, Nat.zero_add, Nat.reduceAdd, if_true, Bool.false_eq_true, if_false, see_int, see_str, see_bl, see_lst, see_tup, see_non, bool_bl, truth_bl, st_ok, oan_nx, oan_rt, oan_bk, oan_ct, fin_rt, fin_nx, tn_nx, tn_rt, tn_ct, tn_bk, andV_bl, orV_bl, notV_bl, List.set_cons_succ, List.set_cons_zero, Bool.not_true, Bool.not_false, Bool.true_and, add_int, sub_int, eq_int, ne_int, lt_int, le_int, gt_int, ge_int, int_int, int_bl, len_lst, len_tup, List.map_cons, List.map_nil, List.length_map]
  rw [x_ret]
  simp only [x_and, x_or, x_not, x_andT, x_orT, x_notT, x_tru, x_test, x_bin, x_un, x_tup, x_lst, x_call, x_call0, x_args, x_args0, x_var, x_k, x_one, x_nil, x_if, List.getElem?_cons_zero, List.getElem?_cons_succ, ofO_ss, an_ok, List.length_cons, List.length_nil, Nat.zero_add, Nat.reduceAdd, if_true, Bool.false_eq_true, if_false, see_int, see_str, see_bl, see_lst, see_tup, see_non, bool_bl, truth_bl, st_ok, oan_nx, oan_rt, oan_bk, oan_ct, fin_rt, fin_nx, tn_nx, tn_rt, tn_ct, tn_bk, andV_bl, orV_bl, notV_bl, List.set_cons_succ, List.set_cons_zero, Bool.not_true, Bool.not_false, Bool.true_and, add_int, sub_int, eq_int, ne_int, lt_int, le_int, gt_int, ge_int, int_int, int_bl, len_lst, len_tup, List.map_cons, List.map_nil, List.length_map, st, i0, i1, a1, a2]
  rfl
theorem two_all {l r : List Fm} {sh : Fm} (hl : Sh 6 l) (hr : Sh 6 r) (h1 : sh.ht ≤ 4) (h2 : sh.Over SOk) : AllS (twoS l r sh) where
  good := fun s hs => by
    have o : Fs [sh] := ⟨by simpa using h1, by simpa using h2, by simp⟩
    simp only [List.mem_cons, List.not_mem_nil, or_false] at hs
    rcases hs with rfl | rfl
    · exact ⟨ok_lit, ⟨o, o, by simp, by simp, ⟨fun φ e => by injection e with e; rw [← e]; exact h1, fun φ e => by injection e with e; rw [← e]; exact h2⟩⟩, by simp, by simp⟩
    · have a := (hl.snoc h1 h2).as
      have b := (hr.snoc h1 h2).as
      exact ⟨ok_lit, ⟨a.fs (by decide), b.fs (by decide), a.few, b.few, ⟨nofun, nofun⟩⟩, by simp, by simp⟩
  few := by simp
theorem stp_facts {s : Stp} (g : GoodS s) : (stpD s).nb = true ∧ (stpD s).lay = true ∧ (stpD s).dp ≤ 62 := by
  have e1 := g.sd.sl.facts (t := .tup) (.inr rfl)
  have e2 := g.sd.sr.facts (t := .tup) (.inr rfl)
  have hm : (mD s.m).nb = true ∧ (mD s.m).lay = true ∧ (mD s.m).dp ≤ 60 := by
    have k := g.sd.m
    cases hq : s.m with
    | none => exact ⟨rfl, rfl, by decide⟩
    | some φ =>
      refine ⟨φ.nb, φ.lay (k.ov φ hq), ?_⟩
      show φ.toD.dp ≤ 60
      rw [φ.dp]
      have := k.ht φ hq
      omega
  have hi : (numD s.ns).nb = true ∧ (numD s.ns).lay = true ∧ (numD s.ns).dp ≤ 60 := by
    refine ⟨?_, ?_, ?_⟩
    · simp only [D.nb]
      exact nbs_ints
    · simp only [D.lay]
      exact lays_ints
    · simp only [D.dp]
      have := @dps_ints s.ns
      omega
  refine ⟨?_, ?_, ?_⟩
  · show (D.tup [.str s.rule, sqD (s.l, s.r), mD s.m, numD s.ns]).nb = true
    simp only [D.nb]
    refine nbs_iff.mpr fun d hd => ?_
    simp only [List.mem_cons, List.not_mem_nil, or_false] at hd
    rcases hd with rfl | rfl | rfl | rfl
    · rfl
    · simp only [D.nb]
      refine nbs_iff.mpr fun d hd => ?_
      simp only [List.mem_cons, List.not_mem_nil, or_false] at hd
      rcases hd with rfl | rfl
      · exact e1.1
      · exact e2.1
    · exact hm.1
    · exact hi.1
  · show (D.tup [.str s.rule, sqD (s.l, s.r), mD s.m, numD s.ns]).lay = true
    simp only [D.lay]
    refine lays_iff.mpr fun d hd => ?_
    simp only [List.mem_cons, List.not_mem_nil, or_false] at hd
    rcases hd with rfl | rfl | rfl | rfl
    · exact g.rule
    · simp only [D.lay]
      refine lays_iff.mpr fun d hd => ?_
      simp only [List.mem_cons, List.not_mem_nil, or_false] at hd
      rcases hd with rfl | rfl
      · exact e1.2.1
      · exact e2.2.1
    · exact hm.2.1
    · exact hi.2.1
  · have r1 : (D.str s.rule).dp ≤ 60 := by simp [D.dp]
    have r2 : (sqD (s.l, s.r)).dp ≤ 61 := by
      simp only [D.dp]
      have : D.dps [fT s.l, fT s.r] ≤ 60 := dps_iff.mpr fun d hd => by
        simp only [List.mem_cons, List.not_mem_nil, or_false] at hd
        rcases hd with rfl | rfl
        · exact e1.2.2
        · exact e2.2.2
      omega
    have h3 := hm.2.2
    have h4 := hi.2.2
    have : D.dps [.str s.rule, sqD (s.l, s.r), mD s.m, numD s.ns] ≤ 61 := dps_iff.mpr fun d hd => by
      simp only [List.mem_cons, List.not_mem_nil, or_false] at hd
      rcases hd with rfl | rfl | rfl | rfl <;> omega
    have e : (stpD s).dp = D.dps [.str s.rule, sqD (s.l, s.r), mD s.m, numD s.ns] + 1 := by
      show (D.tup _).dp = _
      simp only [D.dp]
    omega
theorem sts_facts {S : List Stp} (h : ∀ s ∈ S, GoodS s) : (stsD S).nb = true ∧ (stsD S).lay = true ∧ (stsD S).dp ≤ 63 := by
  refine ⟨?_, ?_, ?_⟩
  · simp only [D.nb]
    exact nbs_iff.mpr fun d hd => by
      obtain ⟨p, hp, rfl⟩ := List.mem_map.mp hd
      exact (stp_facts (h p hp)).1
  · simp only [D.lay]
    exact lays_iff.mpr fun d hd => by
      obtain ⟨p, hp, rfl⟩ := List.mem_map.mp hd
      exact (stp_facts (h p hp)).2.1
  · have : D.dps (S.map stpD) ≤ 62 := dps_iff.mpr fun d hd => by
      obtain ⟨p, hp, rfl⟩ := List.mem_map.mp hd
      exact (stp_facts (h p hp)).2.2
    have e : (stsD S).dp = D.dps (S.map stpD) + 1 := by
      show (D.lst _).dp = _
      simp only [D.dp]
    omega
theorem sts_eqo {S : List Stp} (h : ∀ s ∈ S, GoodS s) : (stsD S).eqo = true := by
  have f := sts_facts h
  exact eqo_of f.1 f.2.1 (by omega)
theorem pair_eqo {S T : List Stp} (h : ∀ s ∈ S, GoodS s) (g : ∀ s ∈ T, GoodS s) : (D.lst [stsD S, stsD T]).eqo = true := by
  have f := sts_facts h
  have k := sts_facts g
  refine eqo_of ?_ ?_ ?_
  · simp only [D.nb]
    exact nbs_iff.mpr fun d hd => by
      simp only [List.mem_cons, List.not_mem_nil, or_false] at hd
      rcases hd with rfl | rfl
      · exact f.1
      · exact k.1
  · simp only [D.lay]
    exact lays_iff.mpr fun d hd => by
      simp only [List.mem_cons, List.not_mem_nil, or_false] at hd
      rcases hd with rfl | rfl
      · exact f.2.1
      · exact k.2.1
  · have : D.dps [stsD S, stsD T] ≤ 63 := dps_iff.mpr fun d hd => by
      simp only [List.mem_cons, List.not_mem_nil, or_false] at hd
      rcases hd with rfl | rfl
      · exact f.2.2
      · exact k.2.2
    simp only [D.dp] at this ⊢
    omega
end
section
variable {l1 r1 l2 r2 : List Fm} {sh q : Fm}
abbrev J39 (l1 r1 l2 r2 : List Fm) (sh q : Fm) : List Stp := joinS (twoS l1 r1 sh) (twoS l2 r2 sh) (wkS l1 r1 sh) q
theorem j_all (h1 : Sh 6 l1) (h2 : Sh 6 r1) (h3 : Sh 6 l2) (h4 : Sh 6 r2) (k1 : sh.ht ≤ 4) (k2 : sh.Over SOk) (q1 : q.ht ≤ 4) (q2 : q.Over SOk) : AllS (J39 l1 r1 l2 r2 sh q) where
  good := fun s hs => by
    have a := two_all h1 h2 k1 k2
    have b := two_all h3 h4 k1 k2
    rcases List.mem_append.mp hs with h | h
    · rcases List.mem_append.mp h with h | h
      · exact a.good s h
      · obtain ⟨t, ht, rfl⟩ := List.mem_map.mp h
        have g := b.good t ht
        refine ⟨g.rule, g.sd, ?_, by simpa using g.few⟩
        simp only [List.mem_cons, List.not_mem_nil, or_false] at ht
        rcases ht with rfl | rfl <;> simp
    · rw [List.mem_singleton.mp h]
      have g := (a.good _ (by simp) : GoodS (wkS l1 r1 sh))
      exact ⟨ok_lit, ⟨g.sd.sl, cutR_fs g.sd.sr, g.sd.ll, Nat.le_trans (List.length_filter_le _ _) g.sd.rl, ⟨fun φ e => by injection e with e; rw [← e]; exact q1, fun φ e => by injection e with e; rw [← e]; exact q2⟩⟩, by simp, by simp⟩
  few := by simp
theorem right_of {it : Bool} {P : Stp → Option PsL} {S : List Stp} {a : Nat} {s : Stp} (h1 : (s.ns.all fun i => decide (0 ≤ i) && decide (i < a)) = true) (h2 : it = true → ∀ φ ∈ s.l ++ s.r, Fo.md φ = 0) (h3 : s.rule ≠ "weaken" → P s = some (s.ns.map (sqAt S))) (h4 : s.rule = "weaken" → s.m = none ∧ s.ns.length = 1 ∧ (∀ φ ∈ (sqAt S (s.ns.headD 0)).1, φ ∈ s.l) ∧ ∀ φ ∈ (sqAt S (s.ns.headD 0)).2, φ ∈ s.r) : right it P S a s = true := by
  unfold right
  rw [if_neg (by rw [h1]; decide)]
  have c : ¬ ((it && !((s.l ++ s.r).all fun φ => decide (Fo.md φ = 0))) = true) := by
    cases it with
    | false => simp
    | true =>
      have : ((s.l ++ s.r).all fun φ => decide (Fo.md φ = 0)) = true := List.all_eq_true.mpr fun φ hφ => decide_eq_true (h2 rfl φ hφ)
      rw [this]
      decide
  rw [if_neg c]
  by_cases hw : s.rule = "weaken"
  · obtain ⟨e1, e2, e3, e4⟩ := h4 hw
    rw [if_pos hw, decide_eq_true e1, decide_eq_true (by rw [List.length_map]; exact e2)]
    unfold weaker
    rw [List.all_eq_true.mpr fun φ hφ => decide_eq_true (e3 φ hφ), List.all_eq_true.mpr fun φ hφ => decide_eq_true (e4 φ hφ)]
    rfl
  · rw [if_neg hw, decide_eq_true (h3 hw)]
theorem cut_back (hq : q ∈ As (r1 ++ [sh])) : As (cutR (As (r1 ++ [sh])) q ++ [q]) = As (r1 ++ [sh]) :=
  asc_one fmS (fmS.sorted _) (asc_ndS fmS _) fun a => by
    rw [List.mem_append, List.mem_singleton, List.mem_filter]
    constructor
    · intro h
      by_cases c : a = q
      · exact .inr c
      · exact .inl ⟨h, by simp [c]⟩
    · rintro (h | h)
      · exact h.1
      · rw [h]
        exact hq
theorem j_right {x : Str} (hm : memB nameL x = true) (hf : fitsJ (wkS l1 r1 sh) (wkS l2 r2 sh) q = true) (hp : memB interL x = true → Fo.md sh = 0 ∧ Fo.md q = 0 ∧ (∀ φ ∈ l1 ++ r1, Fo.md φ = 0) ∧ ∀ φ ∈ l2 ++ r2, Fo.md φ = 0) : (List.range (J39 l1 r1 l2 r2 sh q).length).all (rightAt (memB interL x) (P39 x) (J39 l1 r1 l2 r2 sh q)) = true := by
  unfold fitsJ at hf
  simp only [Bool.and_eq_true, decide_eq_true_eq, Bool.not_eq_true', decide_eq_false_iff_not] at hf
  obtain ⟨⟨q1, q2⟩, q3⟩ := hf
  have wkm : ∀ {l r : List Fm}, (∀ φ ∈ l ++ r, Fo.md φ = 0) → Fo.md sh = 0 → ∀ φ ∈ As (l ++ [sh]) ++ As (r ++ [sh]), Fo.md φ = 0 := fun h hs φ hφ => by
    simp only [List.mem_append, asc_mem, List.mem_singleton] at hφ
    rcases hφ with (h' | h') | (h' | h')
    · exact h φ (List.mem_append_left _ h')
    · rw [h']; exact hs
    · exact h φ (List.mem_append_right _ h')
    · rw [h']; exact hs
  have axm : memB interL x = true → ∀ φ ∈ [sh] ++ [sh], Fo.md φ = 0 := fun e φ hφ => by
    simp only [List.mem_append, List.mem_singleton, or_self] at hφ
    rw [hφ]
    exact (hp e).1
  have axp : P39 x (axS sh) = some [] := by
    unfold P39
    rw [if_pos rfl]
    exact if_pos ⟨by simp, by simp⟩
  have len : (J39 l1 r1 l2 r2 sh q).length = 5 := rfl
  rw [len, List.all_eq_true]
  intro a ha
  have ha := List.mem_range.mp ha
  match a, ha with
  | 0, _ => exact right_of (s := axS sh) (by simp) axm (fun _ => axp) (fun h => absurd (show ("axiom" : Str) = "weaken" from h) (by decide))
  | 1, _ =>
    refine right_of (s := wkS l1 r1 sh) (by simp) (fun e => wkm (hp e).2.2.1 (hp e).1) (fun h => absurd rfl h) fun _ => ⟨rfl, rfl, fun φ hφ => ?_, fun φ hφ => ?_⟩
    · rw [show (sqAt (J39 l1 r1 l2 r2 sh q) ([(0 : Int)].headD 0)).1 = [sh] from rfl] at hφ
      rw [List.mem_singleton.mp hφ, asc_mem]
      simp
    · rw [show (sqAt (J39 l1 r1 l2 r2 sh q) ([(0 : Int)].headD 0)).2 = [sh] from rfl] at hφ
      rw [List.mem_singleton.mp hφ, asc_mem]
      simp
  | 2, _ => exact right_of (s := axS sh) (by simp) axm (fun _ => axp) (fun h => absurd (show ("axiom" : Str) = "weaken" from h) (by decide))
  | 3, _ =>
    refine right_of (s := shiftS 2 (wkS l2 r2 sh)) (by simp) (fun e => wkm (hp e).2.2.2 (hp e).1) (fun h => absurd rfl h) fun _ => ⟨rfl, rfl, fun φ hφ => ?_, fun φ hφ => ?_⟩
    · replace hφ : φ ∈ [sh] := hφ
      rw [List.mem_singleton.mp hφ, asc_mem]
      simp
    · replace hφ : φ ∈ [sh] := hφ
      rw [List.mem_singleton.mp hφ, asc_mem]
      simp
  | 4, _ =>
    refine right_of (s := cutS (wkS l1 r1 sh) q 2 2) (by simp) (fun e φ hφ => ?_) (fun _ => ?_) (fun h => absurd (show ("cut" : Str) = "weaken" from h) (by decide))
    · rcases List.mem_append.mp hφ with h | h
      · exact wkm (hp e).2.2.1 (hp e).1 φ (List.mem_append_left _ h)
      · exact wkm (hp e).2.2.1 (hp e).1 φ (List.mem_append_right _ (List.mem_filter.mp h).1)
    · have s1 : sqAt (J39 l1 r1 l2 r2 sh q) (((2 : Nat) : Int) - 1) = (As (l1 ++ [sh]), As (r1 ++ [sh])) := rfl
      have s3 : sqAt (J39 l1 r1 l2 r2 sh q) (((2 : Nat) : Int) + ((2 : Nat) : Int) - 1) = (As (l2 ++ [sh]), As (r2 ++ [sh])) := rfl
      unfold P39
      rw [if_neg (show ¬ (("cut" : Str) = "axiom") from by decide)]
      have pr : prem (memB modalL x) (decide (x = "Cl")) (As (l1 ++ [sh])) (cutR (As (r1 ++ [sh])) q) 2 (some q) = some [(As (l1 ++ [sh]), As (cutR (As (r1 ++ [sh])) q ++ [q])), (As (As (l1 ++ [sh]) ++ [q]), cutR (As (r1 ++ [sh])) q)] := if_pos (by
        rcases in_rules hm with h | h
        · exact .inl h
        · exact .inr (hp h).2.1)
      refine pr.trans ?_
      rw [List.map_cons, List.map_cons, List.map_nil, s1, s3, cut_back q1, q3]
end
section
variable {l1 r1 l2 r2 : List Fm} {sh q : Fm}
def t39 : SF := sSeq (sSet 13 (cBin gIx (cBin gIx (cBin gIx (cVar 9) (cK (.int 1))) (cK (.int 1))) (cK (.int 0))))
  (sSeq (sSet 14 (cCall (one gTuple) (cArgs [cComp (.nm 20) [20] (cSeq (cBin gIx (cBin gIx (cBin gIx (cVar 9) (cK (.int 1))) (cK (.int 1))) (cK (.int 1)))) (cTest (cBin gNe (cVar 20) (cVar 12))) (cVar 20) kStill])))
  (sSeq (sSet 15 (cAnd (cBin (gInT false) (cVar 12) (cBin gIx (cBin gIx (cBin gIx (cVar 9) (cK (.int 1))) (cK (.int 1))) (cK (.int 1)))) (cAnd (cBin (gInT true) (cVar 12) (cVar 13)) (cBin gEq (cBin gIx (cBin gIx (cVar 10) (cK (.int 1))) (cK (.int 1))) (cTup (cArgs [cCall (fun ds => if ds.length = 2 then ev 59 .f_law_add ds else M.no) (cArgs [cVar 13, cLst (cArgs [cVar 12])]), cVar 14]))))))
  (sSeq (sSet 16 (cLst (cArgs [cCall (one gList) (cArgs [cVar 9]), cCall (one gList) (cArgs [cVar 10])])))
  (sSeq (sTryAE 19 (subO csL subL "ElsewhereError") (sSet 18 (cCall (fun ds => if ds.length = 3 then ev 59 .f_joined ds else M.no) (cArgs [cBin gIx (cVar 16) (cK (.int 0)), cBin gIx (cVar 16) (cK (.int 1)), cVar 12]))) (fun c => if c ∈ csL then (fun c => sRet (cAnd (cK (.bl (subL c "NoFit"))) (cNot (cVar 15)))) c else fun _ _ _ => .no) (sNil))
  (sSeq (sIf (cOrT (cNotT (cTru (cVar 15))) (cTest (cBin gNe (cVar 16) (cLst (cArgs [cVar 9, cVar 10]))))) (sRet (cK (.bl false))) (sNil))
  (sSeq (sSet 17 (cBin gAddM (cVar 9) (cLst (cArgs [cTup (cArgs [cBin gIx (cBin gIx (cVar 10) (cK (.int 0))) (cK (.int 0)), cBin gIx (cBin gIx (cVar 10) (cK (.int 0))) (cK (.int 1)), cBin gIx (cBin gIx (cVar 10) (cK (.int 0))) (cK (.int 2)), cTup (cArgs [])]), cTup (cArgs [cBin gIx (cBin gIx (cVar 10) (cK (.int 1))) (cK (.int 0)), cBin gIx (cBin gIx (cVar 10) (cK (.int 1))) (cK (.int 1)), cK .non, cTup (cArgs [cK (.int 2)])])]))))
  (sSeq (sExpr (cMl gAppend (cVar 17) (cArgs [cTup (cArgs [cK (.str "cut"), cTup (cArgs [cVar 13, cVar 14]), cVar 12, cTup (cArgs [cK (.int 1), cK (.int 3)])])])))
  (sRet (cAnd (cIsi .lst (cVar 18)) (cAnd (cBin gEq (cVar 18) (cVar 17)) (cCall (fun ds => if ds.length = 3 then ev 59 .f_derives ds else M.no) (cArgs [cVar 3, cVar 18, cTup (cArgs [cVar 13, cVar 14])]))))))))))))
theorem tail_ok {S v5 v7 v8 v11 A B : D} {dg : Int} {pl : Bool} {x : Str} (hx : SOk x) (hm : memB nameL x = true) (h1 : Sh 6 l1) (h2 : Sh 6 r1) (h3 : Sh 6 l2) (h4 : Sh 6 r2) (k1 : sh.ht ≤ 4) (k2 : sh.Over SOk) (q1 : q.ht ≤ 4) (q2 : q.Over SOk)
    (hp : memB interL x = true → Fo.md sh = 0 ∧ Fo.md q = 0 ∧ (∀ φ ∈ l1 ++ r1, Fo.md φ = 0) ∧ ∀ φ ∈ l2 ++ r2, Fo.md φ = 0) :
    ∃ w', (t39 [some S, some (.int dg), some (.bl pl), some (.str x), some (.ref 0), some v5, some sh.toD, some v7, some v8, some (stsD (twoS l1 r1 sh)), some (stsD (twoS l2 r2 sh)), some v11, some q.toD, none, none, none, none, none, none, none, none] [] [A, B]).fin = .ok (.bl true) w' := by
  have a1 := two_all h1 h2 k1 k2
  have a2 := two_all h3 h4 k1 k2
  have g1 : GoodS (wkS l1 r1 sh) := a1.good _ (by simp)
  have g2 : GoodS (wkS l2 r2 sh) := a2.good _ (by simp)
  have fa := g1.sd.sl.app g1.sd.ll (one_in ⟨q1, q2⟩) (by simp)
  have ix1 : ∀ (l r : List Fm) w, gIx (stsD (twoS l r sh)) (.int 1) [] w = .ok (stpD (wkS l r sh)) w := fun _ _ _ => rfl
  have ix0 : ∀ (l r : List Fm) w, gIx (stsD (twoS l r sh)) (.int 0) [] w = .ok (stpD (axS sh)) w := fun _ _ _ => rfl
  have iy1 : ∀ (l r : List Fm) w, gIx (.lst [stpD (axS sh), stpD (wkS l r sh)]) (.int 1) [] w = .ok (stpD (wkS l r sh)) w := fun _ _ _ => rfl
  have sx1 : ∀ (s : Stp) w, gIx (stpD s) (.int 1) [] w = .ok (sqD (s.l, s.r)) w := fun _ _ => rfl
  have sx0 : ∀ (s : Stp) w, gIx (stpD s) (.int 0) [] w = .ok (.str s.rule) w := fun _ _ => rfl
  have sx2 : ∀ (s : Stp) w, gIx (stpD s) (.int 2) [] w = .ok (mD s.m) w := fun _ _ => rfl
  have i0 : ∀ (a b : D) w, gIx (.tup [a, b]) (.int 0) [] w = .ok a w := fun _ _ _ => rfl
  have i1 : ∀ (a b : D) w, gIx (.tup [a, b]) (.int 1) [] w = .ok b w := fun _ _ _ => rfl
  have st : ∀ (S : List Stp) w, see [] w (stsD S) = stsD S := fun _ _ => rfl
  have sp : ∀ (s : Stp) w, see [] w (stpD s) = stpD s := fun _ _ => rfl
  have sq : ∀ (p : List Fm × List Fm) w, see [] w (sqD p) = sqD p := fun _ _ => rfl
  have s2 : ∀ (a b : D) w, see [] w (D.tup [a, b]) = .tup [a, b] := fun _ _ _ => rfl
  have sT : ∀ (l : List Fm) w, see [] w (fT l) = fT l := fun _ _ => rfl
  have sL : ∀ (l : List Fm) w, see [] w (fL l) = fL l := fun _ _ => rfl
  have sm : ∀ (φ : Fm) w, see [] w φ.toD = φ.toD := fun _ _ => see_fm
  have tp : ∀ (l : List Fm) w, gTuple (fL l) [] w = .ok (fT l) w := fun _ _ => rfl
  have tl : ∀ (S : List Stp) w, gList (stsD S) [] w = .ok (stsD S) w := fun _ _ => rfl
  have ad : ∀ w, ev 59 .f_law_add [fT (As (l1 ++ [sh])), .lst [q.toD]] [] w = .ok (fT (As (As (l1 ++ [sh]) ++ [q]))) w := fun w => e_lad1 (n := 58) (ro := []) (w := w) fa
  have in1 := fun w => in_fT (ro := []) (w := w) g1.sd.sr q1 q2
  have in2 := fun w => ninFT (ro := []) (w := w) g1.sd.sl q1 q2
  have eq := fun w => sq_eq (ro := []) (w := w) g2.sd.sl g2.sd.sr fa.as (cutR_fs (q := q) g1.sd.sr)
  have cm := fun w => cutR_comp (ro := []) (w := w) (k := 20) (fc := cVar 12) (env := [some S, some (.int dg), some (.bl pl), some (.str x), some (.ref 0), some v5, some sh.toD, some v7, some v8, some (stsD (twoS l1 r1 sh)), some (stsD (twoS l2 r2 sh)), some v11, some q.toD, some (fT (As (l1 ++ [sh]))), none, none, none, none, none, none, none]) g1.sd.sr q1 q2 (by simp) (fun d w => rfl) rfl (it := cSeq (cBin gIx (cBin gIx (cBin gIx (cVar 9) (cK (.int 1))) (cK (.int 1))) (cK (.int 1)))) (fun w => by
    rw [x_seqI]
    simp only [x_and, x_or, x_not, x_andT, x_orT, x_notT, x_tru, x_test, x_bin, x_un, x_tup, x_lst, x_call, x_call0, x_args, x_args0, x_var, x_k, x_one, x_nil, x_if, List.getElem?_cons_zero, List.getElem?_cons_succ, ofO_ss, an_ok, List.length_cons, List.length_nil, Nat.zero_add, Nat.reduceAdd, if_true, Bool.false_eq_true, if_false, see_int, see_str, see_bl, see_lst, see_tup, see_non, bool_bl, truth_bl, st_ok, oan_nx, oan_rt, oan_bk, oan_ct, fin_rt, fin_nx, tn_nx, tn_rt, tn_ct, tn_bk, andV_bl, orV_bl, notV_bl, List.set_cons_succ, List.set_cons_zero, Bool.not_true, Bool.not_false, Bool.true_and, add_int, sub_int, eq_int, ne_int, lt_int, le_int, gt_int, ge_int, int_int, int_bl, len_lst, len_tup, List.map_cons, List.map_nil, List.length_map, st, ix1, sp, sx1, s2, i1]
    rfl)
  have fit : ∀ w, cAnd (cBin (gInT false) (cVar 12) (cBin gIx (cBin gIx (cBin gIx (cVar 9) (cK (.int 1))) (cK (.int 1))) (cK (.int 1)))) (cAnd (cBin (gInT true) (cVar 12) (cVar 13)) (cBin gEq (cBin gIx (cBin gIx (cVar 10) (cK (.int 1))) (cK (.int 1))) (cTup (cArgs [cCall (fun ds => if ds.length = 2 then ev 59 .f_law_add ds else M.no) (cArgs [cVar 13, cLst (cArgs [cVar 12])]), cVar 14])))) [some S, some (.int dg), some (.bl pl), some (.str x), some (.ref 0), some v5, some sh.toD, some v7, some v8, some (stsD (twoS l1 r1 sh)), some (stsD (twoS l2 r2 sh)), some v11, some q.toD, some (fT (As (l1 ++ [sh]))), some (fT (cutR (As (r1 ++ [sh])) q)), none, none, none, none, none, none] [] w = .ok (.bl (fitsJ (wkS l1 r1 sh) (wkS l2 r2 sh) q)) w := fun w => by
    rw [x_and]
    simp only [x_and, x_or, x_not, x_andT, x_orT, x_notT, x_tru, x_test, x_bin, x_un, x_tup, x_lst, x_call, x_call0, x_args, x_args0, x_var, x_k, x_one, x_nil, x_if, List.getElem?_cons_zero, List.getElem?_cons_succ, ofO_ss, an_ok, List.length_cons, List.length_nil, Nat.zero_add, Nat.reduceAdd, if_true, Bool.false_eq_true, if_false, see_int, see_str, see_bl, see_lst, see_tup, see_non, bool_bl, truth_bl, st_ok, oan_nx, oan_rt, oan_bk, oan_ct, fin_rt, fin_nx, tn_nx, tn_rt, tn_ct, tn_bk, andV_bl, orV_bl, notV_bl, List.set_cons_succ, List.set_cons_zero, Bool.not_true, Bool.not_false, Bool.true_and, add_int, sub_int, eq_int, ne_int, lt_int, le_int, gt_int, ge_int, int_int, int_bl, len_lst, len_tup, List.map_cons, List.map_nil, List.length_map, st, ix1, sp, sx1, s2, i1, sm, sT, in1]
    unfold fitsJ
    cases hq : decide (q ∈ As (r1 ++ [sh])) with
    | false => rfl
    | true =>
      simp only [x_and, x_or, x_not, x_andT, x_orT, x_notT, x_tru, x_test, x_bin, x_un, x_tup, x_lst, x_call, x_call0, x_args, x_args0, x_var, x_k, x_one, x_nil, x_if, List.getElem?_cons_zero, List.getElem?_cons_succ, ofO_ss, an_ok, List.length_cons, List.length_nil, Nat.zero_add, Nat.reduceAdd, if_true, Bool.false_eq_true, if_false, see_int, see_str, see_bl, see_lst, see_tup, see_non, bool_bl, truth_bl, st_ok, oan_nx, oan_rt, oan_bk, oan_ct, fin_rt, fin_nx, tn_nx, tn_rt, tn_ct, tn_bk, andV_bl, orV_bl, notV_bl, List.set_cons_succ, List.set_cons_zero, Bool.not_true, Bool.not_false, Bool.true_and, add_int, sub_int, eq_int, ne_int, lt_int, le_int, gt_int, ge_int, int_int, int_bl, len_lst, len_tup, List.map_cons, List.map_nil, List.length_map, sm, sT, in2]
      cases hp : decide (q ∈ As (l1 ++ [sh])) with
      | true => rfl
      | false =>
        simp only [x_and, x_or, x_not, x_andT, x_orT, x_notT, x_tru, x_test, x_bin, x_un, x_tup, x_lst, x_call, x_call0, x_args, x_args0, x_var, x_k, x_one, x_nil, x_if, List.getElem?_cons_zero, List.getElem?_cons_succ, ofO_ss, an_ok, List.length_cons, List.length_nil, Nat.zero_add, Nat.reduceAdd, if_true, Bool.false_eq_true, if_false, see_int, see_str, see_bl, see_lst, see_tup, see_non, bool_bl, truth_bl, st_ok, oan_nx, oan_rt, oan_bk, oan_ct, fin_rt, fin_nx, tn_nx, tn_rt, tn_ct, tn_bk, andV_bl, orV_bl, notV_bl, List.set_cons_succ, List.set_cons_zero, Bool.not_true, Bool.not_false, Bool.true_and, add_int, sub_int, eq_int, ne_int, lt_int, le_int, gt_int, ge_int, int_int, int_bl, len_lst, len_tup, List.map_cons, List.map_nil, List.length_map, st, ix1, iy1, sp, sx1, s2, i1, sm, sT, ad, eq]
  unfold t39
  rw [x_seq, x_set]
  simp only [x_and, x_or, x_not, x_andT, x_orT, x_notT, x_tru, x_test, x_bin, x_un, x_tup, x_lst, x_call, x_call0, x_args, x_args0, x_var, x_k, x_one, x_nil, x_if, List.getElem?_cons_zero, List.getElem?_cons_succ, ofO_ss, an_ok, List.length_cons, List.length_nil, Nat.zero_add, Nat.reduceAdd, if_true, Bool.false_eq_true, if_false, see_int, see_str, see_bl, see_lst, see_tup, see_non, bool_bl, truth_bl, st_ok, oan_nx, oan_rt, oan_bk, oan_ct, fin_rt, fin_nx, tn_nx, tn_rt, tn_ct, tn_bk, andV_bl, orV_bl, notV_bl, List.set_cons_succ, List.set_cons_zero, Bool.not_true, Bool.not_false, Bool.true_and, add_int, sub_int, eq_int, ne_int, lt_int, le_int, gt_int, ge_int, int_int, int_bl, len_lst, len_tup, List.map_cons, List.map_nil, List.length_map, st, ix1, sp, sx1, s2, i0]
  rw [x_seq, x_set]
  simp only [x_and, x_or, x_not, x_andT, x_orT, x_notT, x_tru, x_test, x_bin, x_un, x_tup, x_lst, x_call, x_call0, x_args, x_args0, x_var, x_k, x_one, x_nil, x_if, List.getElem?_cons_zero, List.getElem?_cons_succ, ofO_ss, an_ok, List.length_cons, List.length_nil, Nat.zero_add, Nat.reduceAdd, if_true, Bool.false_eq_true, if_false, see_int, see_str, see_bl, see_lst, see_tup, see_non, bool_bl, truth_bl, st_ok, oan_nx, oan_rt, oan_bk, oan_ct, fin_rt, fin_nx, tn_nx, tn_rt, tn_ct, tn_bk, andV_bl, orV_bl, notV_bl, List.set_cons_succ, List.set_cons_zero, Bool.not_true, Bool.not_false, Bool.true_and, add_int, sub_int, eq_int, ne_int, lt_int, le_int, gt_int, ge_int, int_int, int_bl, len_lst, len_tup, List.map_cons, List.map_nil, List.length_map, x_one, cm, sL, tp]
  have fit' := fit
  rw [x_seq, x_set, fit', st_ok, oan_nx]
  simp only [List.set_cons_succ, List.set_cons_zero]
  rw [x_seq, x_set]
  simp only [x_and, x_or, x_not, x_andT, x_orT, x_notT, x_tru, x_test, x_bin, x_un, x_tup, x_lst, x_call, x_call0, x_args, x_args0, x_var, x_k, x_one, x_nil, x_if, List.getElem?_cons_zero, List.getElem?_cons_succ, ofO_ss, an_ok, List.length_cons, List.length_nil, Nat.zero_add, Nat.reduceAdd, if_true, Bool.false_eq_true, if_false, see_int, see_str, see_bl, see_lst, see_tup, see_non, bool_bl, truth_bl, st_ok, oan_nx, oan_rt, oan_bk, oan_ct, fin_rt, fin_nx, tn_nx, tn_rt, tn_ct, tn_bk, andV_bl, orV_bl, notV_bl, List.set_cons_succ, List.set_cons_zero, Bool.not_true, Bool.not_false, Bool.true_and, add_int, sub_int, eq_int, ne_int, lt_int, le_int, gt_int, ge_int, int_int, int_bl, len_lst, len_tup, List.map_cons, List.map_nil, List.length_map, x_one, st, tl]
  have ej : ∀ w, ev 59 .f_joined [stsD (twoS l1 r1 sh), stsD (twoS l2 r2 sh), q.toD] [] w = if (fitsJ (wkS l1 r1 sh) (wkS l2 r2 sh) q) = true then .ok (stsD (J39 l1 r1 l2 r2 sh q)) w else .exn "NoFit" [] [] w := fun w => e_joined (n := 58) (ro := []) (w := w) a1 a2 rfl rfl q1 q2 (by omega)
  have ig0 : ∀ (a b : D) w, gIx (.lst [a, b]) (.int 0) [] w = .ok a w := fun _ _ _ => rfl
  have ig1 : ∀ (a b : D) w, gIx (.lst [a, b]) (.int 1) [] w = .ok b w := fun _ _ _ => rfl
  cases hf : (fitsJ (wkS l1 r1 sh) (wkS l2 r2 sh) q) with
  | false =>
    rw [hf] at ej
    simp only [Bool.false_eq_true, if_false] at ej
    refine ⟨[A, B], ?_⟩
    have st1 : sSet 18 (cCall (fun ds => if ds.length = 3 then ev 59 .f_joined ds else M.no) (cArgs [cBin gIx (cVar 16) (cK (.int 0)), cBin gIx (cVar 16) (cK (.int 1)), cVar 12])) [some S, some (.int dg), some (.bl pl), some (.str x), some (.ref 0), some v5, some sh.toD, some v7, some v8, some (stsD (twoS l1 r1 sh)), some (stsD (twoS l2 r2 sh)), some v11, some q.toD, some (fT (As (l1 ++ [sh]))), some (fT (cutR (As (r1 ++ [sh])) q)), some (.bl false), some (.lst [stsD (twoS l1 r1 sh), stsD (twoS l2 r2 sh)]), none, none, none, none] [] [A, B] = .exn "NoFit" [] [] [some S, some (.int dg), some (.bl pl), some (.str x), some (.ref 0), some v5, some sh.toD, some v7, some v8, some (stsD (twoS l1 r1 sh)), some (stsD (twoS l2 r2 sh)), some v11, some q.toD, some (fT (As (l1 ++ [sh]))), some (fT (cutR (As (r1 ++ [sh])) q)), some (.bl false), some (.lst [stsD (twoS l1 r1 sh), stsD (twoS l2 r2 sh)]), none, none, none, none] [A, B] := by
      rw [x_set]
      simp only [x_and, x_or, x_not, x_andT, x_orT, x_notT, x_tru, x_test, x_bin, x_un, x_tup, x_lst, x_call, x_call0, x_args, x_args0, x_var, x_k, x_one, x_nil, x_if, List.getElem?_cons_zero, List.getElem?_cons_succ, ofO_ss, an_ok, List.length_cons, List.length_nil, Nat.zero_add, Nat.reduceAdd, if_true, Bool.false_eq_true, if_false, see_int, see_str, see_bl, see_lst, see_tup, see_non, bool_bl, truth_bl, st_ok, oan_nx, oan_rt, oan_bk, oan_ct, fin_rt, fin_nx, tn_nx, tn_rt, tn_ct, tn_bk, andV_bl, orV_bl, notV_bl, List.set_cons_succ, List.set_cons_zero, Bool.not_true, Bool.not_false, Bool.true_and, add_int, sub_int, eq_int, ne_int, lt_int, le_int, gt_int, ge_int, int_int, int_bl, len_lst, len_tup, List.map_cons, List.map_nil, List.length_map, ig0, ig1, ej]
      rfl
    have tr : (sTryAE 19 (subO csL subL "ElsewhereError") (sSet 18 (cCall (fun ds => if ds.length = 3 then ev 59 .f_joined ds else M.no) (cArgs [cBin gIx (cVar 16) (cK (.int 0)), cBin gIx (cVar 16) (cK (.int 1)), cVar 12]))) (fun c => if c ∈ csL then (fun c => sRet (cAnd (cK (.bl (subL c "NoFit"))) (cNot (cVar 15)))) c else fun _ _ _ => .no) (sNil)) [some S, some (.int dg), some (.bl pl), some (.str x), some (.ref 0), some v5, some sh.toD, some v7, some v8, some (stsD (twoS l1 r1 sh)), some (stsD (twoS l2 r2 sh)), some v11, some q.toD, some (fT (As (l1 ++ [sh]))), some (fT (cutR (As (r1 ++ [sh])) q)), some (.bl false), some (.lst [stsD (twoS l1 r1 sh), stsD (twoS l2 r2 sh)]), none, none, none, none] [] [A, B] = .go (.rt (.bl true)) [some S, some (.int dg), some (.bl pl), some (.str x), some (.ref 0), some v5, some sh.toD, some v7, some v8, some (stsD (twoS l1 r1 sh)), some (stsD (twoS l2 r2 sh)), some v11, some q.toD, some (fT (As (l1 ++ [sh]))), some (fT (cutR (As (r1 ++ [sh])) q)), some (.bl false), some (.lst [stsD (twoS l1 r1 sh), stsD (twoS l2 r2 sh)]), none, none, none, none] [A, B] := by
      unfold sTryAE
      rw [st1]
      rfl
    rw [x_seq, tr]
    rfl
  | true =>
    rw [hf] at ej
    simp only [if_true] at ej
    have st1 : sSet 18 (cCall (fun ds => if ds.length = 3 then ev 59 .f_joined ds else M.no) (cArgs [cBin gIx (cVar 16) (cK (.int 0)), cBin gIx (cVar 16) (cK (.int 1)), cVar 12])) [some S, some (.int dg), some (.bl pl), some (.str x), some (.ref 0), some v5, some sh.toD, some v7, some v8, some (stsD (twoS l1 r1 sh)), some (stsD (twoS l2 r2 sh)), some v11, some q.toD, some (fT (As (l1 ++ [sh]))), some (fT (cutR (As (r1 ++ [sh])) q)), some (.bl true), some (.lst [stsD (twoS l1 r1 sh), stsD (twoS l2 r2 sh)]), none, none, none, none] [] [A, B] = .go .nx [some S, some (.int dg), some (.bl pl), some (.str x), some (.ref 0), some v5, some sh.toD, some v7, some v8, some (stsD (twoS l1 r1 sh)), some (stsD (twoS l2 r2 sh)), some v11, some q.toD, some (fT (As (l1 ++ [sh]))), some (fT (cutR (As (r1 ++ [sh])) q)), some (.bl true), some (.lst [stsD (twoS l1 r1 sh), stsD (twoS l2 r2 sh)]), none, some (stsD (J39 l1 r1 l2 r2 sh q)), none, none] [A, B] := by
      rw [x_set]
      simp only [x_and, x_or, x_not, x_andT, x_orT, x_notT, x_tru, x_test, x_bin, x_un, x_tup, x_lst, x_call, x_call0, x_args, x_args0, x_var, x_k, x_one, x_nil, x_if, List.getElem?_cons_zero, List.getElem?_cons_succ, ofO_ss, an_ok, List.length_cons, List.length_nil, Nat.zero_add, Nat.reduceAdd, if_true, Bool.false_eq_true, if_false, see_int, see_str, see_bl, see_lst, see_tup, see_non, bool_bl, truth_bl, st_ok, oan_nx, oan_rt, oan_bk, oan_ct, fin_rt, fin_nx, tn_nx, tn_rt, tn_ct, tn_bk, andV_bl, orV_bl, notV_bl, List.set_cons_succ, List.set_cons_zero, Bool.not_true, Bool.not_false, Bool.true_and, add_int, sub_int, eq_int, ne_int, lt_int, le_int, gt_int, ge_int, int_int, int_bl, len_lst, len_tup, List.map_cons, List.map_nil, List.length_map, ig0, ig1, ej]
    have tr : (sTryAE 19 (subO csL subL "ElsewhereError") (sSet 18 (cCall (fun ds => if ds.length = 3 then ev 59 .f_joined ds else M.no) (cArgs [cBin gIx (cVar 16) (cK (.int 0)), cBin gIx (cVar 16) (cK (.int 1)), cVar 12]))) (fun c => if c ∈ csL then (fun c => sRet (cAnd (cK (.bl (subL c "NoFit"))) (cNot (cVar 15)))) c else fun _ _ _ => .no) (sNil)) [some S, some (.int dg), some (.bl pl), some (.str x), some (.ref 0), some v5, some sh.toD, some v7, some v8, some (stsD (twoS l1 r1 sh)), some (stsD (twoS l2 r2 sh)), some v11, some q.toD, some (fT (As (l1 ++ [sh]))), some (fT (cutR (As (r1 ++ [sh])) q)), some (.bl true), some (.lst [stsD (twoS l1 r1 sh), stsD (twoS l2 r2 sh)]), none, none, none, none] [] [A, B] = .go .nx [some S, some (.int dg), some (.bl pl), some (.str x), some (.ref 0), some v5, some sh.toD, some v7, some v8, some (stsD (twoS l1 r1 sh)), some (stsD (twoS l2 r2 sh)), some v11, some q.toD, some (fT (As (l1 ++ [sh]))), some (fT (cutR (As (r1 ++ [sh])) q)), some (.bl true), some (.lst [stsD (twoS l1 r1 sh), stsD (twoS l2 r2 sh)]), none, some (stsD (J39 l1 r1 l2 r2 sh q)), none, none] [A, B] := by
      unfold sTryAE
      rw [st1]
      rfl
    rw [x_seq, tr, oan_nx, x_seq, x_ifS]
    have gq := pair_eqo a1.good a2.good
    have gn : ∀ w, gNe (.lst [stsD (twoS l1 r1 sh), stsD (twoS l2 r2 sh)]) (.lst [stsD (twoS l1 r1 sh), stsD (twoS l2 r2 sh)]) [] w = .ok (.bl false) w := fun w => by
      rw [ne_eqo gq gq, decide_eq_true rfl]
      rfl
    simp only [x_and, x_or, x_not, x_andT, x_orT, x_notT, x_tru, x_test, x_bin, x_un, x_tup, x_lst, x_call, x_call0, x_args, x_args0, x_var, x_k, x_one, x_nil, x_if, List.getElem?_cons_zero, List.getElem?_cons_succ, ofO_ss, an_ok, List.length_cons, List.length_nil, Nat.zero_add, Nat.reduceAdd, if_true, Bool.false_eq_true, if_false, see_int, see_str, see_bl, see_lst, see_tup, see_non, bool_bl, truth_bl, st_ok, oan_nx, oan_rt, oan_bk, oan_ct, fin_rt, fin_nx, tn_nx, tn_rt, tn_ct, tn_bk, andV_bl, orV_bl, notV_bl, List.set_cons_succ, List.set_cons_zero, Bool.not_true, Bool.not_false, Bool.true_and, add_int, sub_int, eq_int, ne_int, lt_int, le_int, gt_int, ge_int, int_int, int_bl, len_lst, len_tup, List.map_cons, List.map_nil, List.length_map, gn, x_nil]
    have ads : gAddM (stsD (twoS l1 r1 sh)) (.lst [.tup [.str "axiom", sqD ([sh], [sh]), sh.toD, .tup []], .tup [.str "weaken", sqD (As (l2 ++ [sh]), As (r2 ++ [sh])), .non, .tup [.int 2]]]) [] [A, B] = .ok (.ref 2) [A, B, .lst [stpD (axS sh), stpD (wkS l1 r1 sh), stpD (axS sh), .tup [.str "weaken", sqD (As (l2 ++ [sh]), As (r2 ++ [sh])), .non, .tup [.int 2]]]] := rfl
    have sl : ∀ (t : List D) w, see [] w (.lst t) = .lst t := fun _ _ => rfl
    rw [x_seq, x_set]
    simp only [x_and, x_or, x_not, x_andT, x_orT, x_notT, x_tru, x_test, x_bin, x_un, x_tup, x_lst, x_call, x_call0, x_args, x_args0, x_var, x_k, x_one, x_nil, x_if, List.getElem?_cons_zero, List.getElem?_cons_succ, ofO_ss, an_ok, List.length_cons, List.length_nil, Nat.zero_add, Nat.reduceAdd, if_true, Bool.false_eq_true, if_false, see_int, see_str, see_bl, see_lst, see_tup, see_non, bool_bl, truth_bl, st_ok, oan_nx, oan_rt, oan_bk, oan_ct, fin_rt, fin_nx, tn_nx, tn_rt, tn_ct, tn_bk, andV_bl, orV_bl, notV_bl, List.set_cons_succ, List.set_cons_zero, Bool.not_true, Bool.not_false, Bool.true_and, add_int, sub_int, eq_int, ne_int, lt_int, le_int, gt_int, ge_int, int_int, int_bl, len_lst, len_tup, List.map_cons, List.map_nil, List.length_map, st, ix1, ix0, sp, sx0, sx1, sx2, show mD (some sh) = sh.toD from rfl, sl, ads]
    have mlv : ∀ ds (f : List D → Out D) w, mlV (.lst ds) f w = f w := fun _ _ _ => rfl
    have s3 : ∀ (t : List D), see [] [A, B, .lst t] (.ref 2) = .lst t := fun _ => rfl
    have ap : gAppend [.tup [.str "cut", .tup [fT (As (l1 ++ [sh])), fT (cutR (As (r1 ++ [sh])) q)], q.toD, .tup [.int 1, .int 3]]] (.ref 2) [] [A, B, .lst [stpD (axS sh), stpD (wkS l1 r1 sh), stpD (axS sh), .tup [.str "weaken", sqD (As (l2 ++ [sh]), As (r2 ++ [sh])), .non, .tup [.int 2]]]] = .ok .non [A, B, stsD (J39 l1 r1 l2 r2 sh q)] := append_at (ro := []) (w := [A, B, .lst [stpD (axS sh), stpD (wkS l1 r1 sh), stpD (axS sh), .tup [.str "weaken", sqD (As (l2 ++ [sh]), As (r2 ++ [sh])), .non, .tup [.int 2]]]]) (n := 2) rfl (show (4 : Nat) < sizeLine by decide)
    rw [x_seq, x_expr]
    simp only [x_and, x_or, x_not, x_andT, x_orT, x_notT, x_tru, x_test, x_bin, x_un, x_tup, x_lst, x_call, x_call0, x_args, x_args0, x_var, x_k, x_one, x_nil, x_if, List.getElem?_cons_zero, List.getElem?_cons_succ, ofO_ss, an_ok, List.length_cons, List.length_nil, Nat.zero_add, Nat.reduceAdd, if_true, Bool.false_eq_true, if_false, see_int, see_str, see_bl, see_lst, see_tup, see_non, bool_bl, truth_bl, st_ok, oan_nx, oan_rt, oan_bk, oan_ct, fin_rt, fin_nx, tn_nx, tn_rt, tn_ct, tn_bk, andV_bl, orV_bl, notV_bl, List.set_cons_succ, List.set_cons_zero, Bool.not_true, Bool.not_false, Bool.true_and, add_int, sub_int, eq_int, ne_int, lt_int, le_int, gt_int, ge_int, int_int, int_bl, len_lst, len_tup, List.map_cons, List.map_nil, List.length_map, x_ml, s3, mlv, ap]
    have jg := j_all h1 h2 h3 h4 k1 k2 q1 q2
    have je := sts_eqo jg.good
    have eqj : ∀ w, gEq (stsD (J39 l1 r1 l2 r2 sh q)) (stsD (J39 l1 r1 l2 r2 sh q)) [] w = .ok (.bl true) w := fun w => by rw [eq_eqo je je, decide_eq_true rfl]
    have s4 : see [] [A, B, stsD (J39 l1 r1 l2 r2 sh q)] (.ref 2) = stsD (J39 l1 r1 l2 r2 sh q) := rfl
    have dv : ∀ w, ev 59 .f_derives [.str x, stsD (J39 l1 r1 l2 r2 sh q), sqD (As (l1 ++ [sh]), cutR (As (r1 ++ [sh])) q)] [] w = .ok (.bl true) w := fun w => by
      have hR : ∀ s ∈ J39 l1 r1 l2 r2 sh q, s.rule = "axiom" ∨ s.rule = "weaken" ∨ s.rule = "cut" := fun s hs => by
        simp only [List.mem_append, List.mem_cons, List.not_mem_nil, or_false, List.map_cons, List.map_nil] at hs
        rcases hs with ((rfl | rfl) | (rfl | rfl)) | rfl
        · exact .inl rfl
        · exact .inr (.inl rfl)
        · exact .inl rfl
        · exact .inr (.inl rfl)
        · exact .inr (.inr rfl)
      have e := e_derives (n := 52) (ro := []) (w := w) hx hm jg (by omega) (prem_H (n := 51) hx hm jg hR (by omega)) g1.sd.sl (cutR_fs (q := q) g1.sd.sr)
      rw [j_right hm hf hp] at e
      have gl : (J39 l1 r1 l2 r2 sh q).getLast? = some (cutS (wkS l1 r1 sh) q 2 2) := rfl
      rw [gl] at e
      refine Eq.trans e ?_
      simp
    have il : ∀ w, isiV .lst (stsD (J39 l1 r1 l2 r2 sh q)) w = .ok (.bl true) w := fun _ => rfl
    refine ⟨[A, B, stsD (J39 l1 r1 l2 r2 sh q)], ?_⟩
    rw [x_ret, x_and]
    simp only [x_and, x_or, x_not, x_andT, x_orT, x_notT, x_tru, x_test, x_bin, x_un, x_tup, x_lst, x_call, x_call0, x_args, x_args0, x_var, x_k, x_one, x_nil, x_if, List.getElem?_cons_zero, List.getElem?_cons_succ, ofO_ss, an_ok, List.length_cons, List.length_nil, Nat.zero_add, Nat.reduceAdd, if_true, Bool.false_eq_true, if_false, see_int, see_str, see_bl, see_lst, see_tup, see_non, bool_bl, truth_bl, st_ok, oan_nx, oan_rt, oan_bk, oan_ct, fin_rt, fin_nx, tn_nx, tn_rt, tn_ct, tn_bk, andV_bl, orV_bl, notV_bl, List.set_cons_succ, List.set_cons_zero, Bool.not_true, Bool.not_false, Bool.true_and, add_int, sub_int, eq_int, ne_int, lt_int, le_int, gt_int, ge_int, int_int, int_bl, len_lst, len_tup, List.map_cons, List.map_nil, List.length_map, x_isi, st, il, s4, eqj, dv]
    try rfl
end
section
structure SP (it : Prop) (k : Nat) (l : List Fm) : Prop where
  sh : Sh k l
  pl : it → ∀ φ ∈ l, Fo.md φ = 0
theorem SP.as {it : Prop} {k : Nat} {l : List Fm} (h : SP it k l) : SP it k (As l) := ⟨h.sh.as, fun e φ hφ => h.pl e φ ((asc_mem fmS).mp hφ)⟩
theorem SP.snoc {it : Prop} {k : Nat} {l : List Fm} {φ : Fm} (h : SP it k l) (h1 : φ.ht ≤ 4) (h2 : φ.Over SOk) (h3 : it → Fo.md φ = 0) : SP it (k + 1) (l ++ [φ]) := ⟨h.sh.snoc h1 h2, fun e ψ hψ => by
    rcases List.mem_append.mp hψ with h' | h'
    · exact h.pl e ψ h'
    · rw [List.mem_singleton.mp h']
      exact h3 e⟩
theorem SP.more {it : Prop} {k j : Nat} {l : List Fm} (h : SP it k l) (hk : k ≤ j) : SP it j l := ⟨⟨h.sh.ht, h.sh.ov, Nat.le_trans h.sh.few hk⟩, h.pl⟩
variable {l1 r1 l2 r2 gl gr B0 B1 : List Fm} {sh m : Fm} {S A B : D} {dg way : Int} {pl : Bool} {x : Str} {it : Prop}
structure Bs (it : Prop) (B0 B1 : List Fm) (sh m : Fm) : Prop where
  b0 : SP it 5 B0
  b1 : SP it 5 B1
  s1 : sh.ht ≤ 3
  s2 : sh.Over SOk
  s3 : it → Fo.md sh = 0
  m1 : m.ht ≤ 3
  m2 : m.Over SOk
  m3 : it → Fo.md m = 0
theorem Bs.am (b : Bs it B0 B1 sh m) : SP it 6 (As (B0 ++ [m])) ∧ SP it 6 (As (B1 ++ [m])) := ⟨(b.b0.snoc (Nat.le_trans b.m1 (by decide)) b.m2 b.m3).as, (b.b1.snoc (Nat.le_trans b.m1 (by decide)) b.m2 b.m3).as⟩
theorem two_run (b : Bs it B0 B1 sh m) {l r : List Fm} (hl : SP it 6 l) (hr : SP it 6 r) (w : List D) : ev 59 .f_law_two [sqD (l, r), sh.toD] [] w = .ok (stsD (twoS l r sh)) w :=
  e_two (n := 58) ((hl.sh.snoc (Nat.le_trans b.s1 (by decide)) b.s2).fs (by decide)) ((hr.sh.snoc (Nat.le_trans b.s1 (by decide)) b.s2).fs (by decide)) (by decide)
theorem add_run {l : List Fm} {φ : Fm} (hl : SP it 5 l) (h1 : φ.ht ≤ 4) (h2 : φ.Over SOk) (w : List D) : ev 59 .f_law_add [fT l, .lst [φ.toD]] [] w = .ok (fT (As (l ++ [φ]))) w :=
  e_lad1 (n := 58) ((hl.sh.snoc h1 h2).fs (by decide))
theorem way_1 (b : Bs it B0 B1 sh m) {v : D} (hl : SP it 6 l2) (hr : SP it 6 r2) : ∃ l r, SP it 6 l ∧ SP it 6 r ∧ (sIf (cTest (cBin gEq (cVar 11) (cK (.int 1)))) (sSet 10 (cCall (fun ds => if ds.length = 2 then ev 59 .f_law_two ds else M.no) (cArgs [cTup (cArgs [cBin gIx (cVar 8) (cK (.int 0)), cCall (fun ds => if ds.length = 2 then ev 59 .f_law_add ds else M.no) (cArgs [cBin gIx (cVar 8) (cK (.int 1)), cLst (cArgs [cVar 7])])]), cVar 6]))) (sNil)) [some S, some (.int dg), some (.bl pl), some (.str x), some (.ref 0), some (sqD (gl, gr)), some sh.toD, some m.toD, some (sqD (B0, B1)), some (v), some (stsD (twoS l2 r2 sh)), some (.int way), none, none, none, none, none, none, none, none, none] [] [A, B] = .go .nx [some S, some (.int dg), some (.bl pl), some (.str x), some (.ref 0), some (sqD (gl, gr)), some sh.toD, some m.toD, some (sqD (B0, B1)), some (v), some (stsD (twoS l r sh)), some (.int way), none, none, none, none, none, none, none, none, none] [A, B] := by
  have eq : ∀ w, gEq (.int way) (.int 1) [] w = .ok (.bl (decide (way = 1))) w := fun _ => rfl
  have s2 : ∀ (a b : D) w, see [] w (D.tup [a, b]) = .tup [a, b] := fun _ _ _ => rfl
  have i0 : ∀ (a b : D) w, gIx (.tup [a, b]) (.int 0) [] w = .ok a w := fun _ _ _ => rfl
  have i1 : ∀ (a b : D) w, gIx (.tup [a, b]) (.int 1) [] w = .ok b w := fun _ _ _ => rfl
  have a1 := add_run b.b1 (Nat.le_trans b.m1 (by decide)) b.m2
  have t1 := two_run b (b.b0.more (by decide)) b.am.2
  rw [x_ifS]
  by_cases c : way = 1
  · refine ⟨B0, _, b.b0.more (by decide), b.am.2, ?_⟩
    rw [decide_eq_true c] at eq
    simp only [x_and, x_or, x_not, x_andT, x_orT, x_notT, x_tru, x_test, x_bin, x_un, x_tup, x_lst, x_call, x_call0, x_args, x_args0, x_var, x_k, x_one, x_nil, x_if, List.getElem?_cons_zero, List.getElem?_cons_succ, ofO_ss, an_ok, List.length_cons, List.length_nil, Nat.zero_add, Nat.reduceAdd, if_true, Bool.false_eq_true, if_false, see_int, see_str, see_bl, see_lst, see_tup, see_non, bool_bl, truth_bl, st_ok, oan_nx, oan_rt, oan_bk, oan_ct, fin_rt, fin_nx, tn_nx, tn_rt, tn_ct, tn_bk, andV_bl, orV_bl, notV_bl, List.set_cons_succ, List.set_cons_zero, Bool.not_true, Bool.not_false, Bool.true_and, add_int, sub_int, eq_int, ne_int, lt_int, le_int, gt_int, ge_int, int_int, int_bl, len_lst, len_tup, List.map_cons, List.map_nil, List.length_map, eq]
    rw [x_set]
    simp only [x_and, x_or, x_not, x_andT, x_orT, x_notT, x_tru, x_test, x_bin, x_un, x_tup, x_lst, x_call, x_call0, x_args, x_args0, x_var, x_k, x_one, x_nil, x_if, List.getElem?_cons_zero, List.getElem?_cons_succ, ofO_ss, an_ok, List.length_cons, List.length_nil, Nat.zero_add, Nat.reduceAdd, if_true, Bool.false_eq_true, if_false, see_int, see_str, see_bl, see_lst, see_tup, see_non, bool_bl, truth_bl, st_ok, oan_nx, oan_rt, oan_bk, oan_ct, fin_rt, fin_nx, tn_nx, tn_rt, tn_ct, tn_bk, andV_bl, orV_bl, notV_bl, List.set_cons_succ, List.set_cons_zero, Bool.not_true, Bool.not_false, Bool.true_and, add_int, sub_int, eq_int, ne_int, lt_int, le_int, gt_int, ge_int, int_int, int_bl, len_lst, len_tup, List.map_cons, List.map_nil, List.length_map, s2, i0, i1, a1, t1]
  · refine ⟨l2, r2, hl, hr, ?_⟩
    rw [decide_eq_false c] at eq
    simp only [x_and, x_or, x_not, x_andT, x_orT, x_notT, x_tru, x_test, x_bin, x_un, x_tup, x_lst, x_call, x_call0, x_args, x_args0, x_var, x_k, x_one, x_nil, x_if, List.getElem?_cons_zero, List.getElem?_cons_succ, ofO_ss, an_ok, List.length_cons, List.length_nil, Nat.zero_add, Nat.reduceAdd, if_true, Bool.false_eq_true, if_false, see_int, see_str, see_bl, see_lst, see_tup, see_non, bool_bl, truth_bl, st_ok, oan_nx, oan_rt, oan_bk, oan_ct, fin_rt, fin_nx, tn_nx, tn_rt, tn_ct, tn_bk, andV_bl, orV_bl, notV_bl, List.set_cons_succ, List.set_cons_zero, Bool.not_true, Bool.not_false, Bool.true_and, add_int, sub_int, eq_int, ne_int, lt_int, le_int, gt_int, ge_int, int_int, int_bl, len_lst, len_tup, List.map_cons, List.map_nil, List.length_map, eq, x_nil]
theorem way_2 (b : Bs it B0 B1 sh m) {v : D} (hl : SP it 6 l1) (hr : SP it 6 r1) : ∃ l r, SP it 6 l ∧ SP it 6 r ∧ (sIf (cTest (cBin gEq (cVar 11) (cK (.int 2)))) (sSet 9 (cCall (fun ds => if ds.length = 2 then ev 59 .f_law_two ds else M.no) (cArgs [cVar 8, cVar 6]))) (sNil)) [some S, some (.int dg), some (.bl pl), some (.str x), some (.ref 0), some (sqD (gl, gr)), some sh.toD, some m.toD, some (sqD (B0, B1)), some (stsD (twoS l1 r1 sh)), some (v), some (.int way), none, none, none, none, none, none, none, none, none] [] [A, B] = .go .nx [some S, some (.int dg), some (.bl pl), some (.str x), some (.ref 0), some (sqD (gl, gr)), some sh.toD, some m.toD, some (sqD (B0, B1)), some (stsD (twoS l r sh)), some (v), some (.int way), none, none, none, none, none, none, none, none, none] [A, B] := by
  have eq : ∀ w, gEq (.int way) (.int 2) [] w = .ok (.bl (decide (way = 2))) w := fun _ => rfl
  have t1 := two_run b (b.b0.more (by decide)) (b.b1.more (by decide))
  rw [x_ifS]
  by_cases c : way = 2
  · refine ⟨B0, B1, b.b0.more (by decide), b.b1.more (by decide), ?_⟩
    rw [decide_eq_true c] at eq
    simp only [x_and, x_or, x_not, x_andT, x_orT, x_notT, x_tru, x_test, x_bin, x_un, x_tup, x_lst, x_call, x_call0, x_args, x_args0, x_var, x_k, x_one, x_nil, x_if, List.getElem?_cons_zero, List.getElem?_cons_succ, ofO_ss, an_ok, List.length_cons, List.length_nil, Nat.zero_add, Nat.reduceAdd, if_true, Bool.false_eq_true, if_false, see_int, see_str, see_bl, see_lst, see_tup, see_non, bool_bl, truth_bl, st_ok, oan_nx, oan_rt, oan_bk, oan_ct, fin_rt, fin_nx, tn_nx, tn_rt, tn_ct, tn_bk, andV_bl, orV_bl, notV_bl, List.set_cons_succ, List.set_cons_zero, Bool.not_true, Bool.not_false, Bool.true_and, add_int, sub_int, eq_int, ne_int, lt_int, le_int, gt_int, ge_int, int_int, int_bl, len_lst, len_tup, List.map_cons, List.map_nil, List.length_map, eq]
    rw [x_set]
    simp only [x_and, x_or, x_not, x_andT, x_orT, x_notT, x_tru, x_test, x_bin, x_un, x_tup, x_lst, x_call, x_call0, x_args, x_args0, x_var, x_k, x_one, x_nil, x_if, List.getElem?_cons_zero, List.getElem?_cons_succ, ofO_ss, an_ok, List.length_cons, List.length_nil, Nat.zero_add, Nat.reduceAdd, if_true, Bool.false_eq_true, if_false, see_int, see_str, see_bl, see_lst, see_tup, see_non, bool_bl, truth_bl, st_ok, oan_nx, oan_rt, oan_bk, oan_ct, fin_rt, fin_nx, tn_nx, tn_rt, tn_ct, tn_bk, andV_bl, orV_bl, notV_bl, List.set_cons_succ, List.set_cons_zero, Bool.not_true, Bool.not_false, Bool.true_and, add_int, sub_int, eq_int, ne_int, lt_int, le_int, gt_int, ge_int, int_int, int_bl, len_lst, len_tup, List.map_cons, List.map_nil, List.length_map, t1]
  · refine ⟨l1, r1, hl, hr, ?_⟩
    rw [decide_eq_false c] at eq
    simp only [x_and, x_or, x_not, x_andT, x_orT, x_notT, x_tru, x_test, x_bin, x_un, x_tup, x_lst, x_call, x_call0, x_args, x_args0, x_var, x_k, x_one, x_nil, x_if, List.getElem?_cons_zero, List.getElem?_cons_succ, ofO_ss, an_ok, List.length_cons, List.length_nil, Nat.zero_add, Nat.reduceAdd, if_true, Bool.false_eq_true, if_false, see_int, see_str, see_bl, see_lst, see_tup, see_non, bool_bl, truth_bl, st_ok, oan_nx, oan_rt, oan_bk, oan_ct, fin_rt, fin_nx, tn_nx, tn_rt, tn_ct, tn_bk, andV_bl, orV_bl, notV_bl, List.set_cons_succ, List.set_cons_zero, Bool.not_true, Bool.not_false, Bool.true_and, add_int, sub_int, eq_int, ne_int, lt_int, le_int, gt_int, ge_int, int_int, int_bl, len_lst, len_tup, List.map_cons, List.map_nil, List.length_map, eq, x_nil]
theorem way_3 (b : Bs it B0 B1 sh m) {v : D} (hl : SP it 6 l2) (hr : SP it 6 r2) : ∃ l r, SP it 6 l ∧ SP it 6 r ∧ (sIf (cTest (cBin gEq (cVar 11) (cK (.int 3)))) (sSet 10 (cCall (fun ds => if ds.length = 2 then ev 59 .f_law_two ds else M.no) (cArgs [cTup (cArgs [cCall (fun ds => if ds.length = 2 then ev 59 .f_law_add ds else M.no) (cArgs [cBin gIx (cVar 8) (cK (.int 0)), cLst (cArgs [cVar 7])]), cCall (fun ds => if ds.length = 2 then ev 59 .f_law_add ds else M.no) (cArgs [cBin gIx (cVar 8) (cK (.int 1)), cLst (cArgs [cTup (cArgs [cK (.str "implies"), cVar 7, cVar 7])])])]), cVar 6]))) (sNil)) [some S, some (.int dg), some (.bl pl), some (.str x), some (.ref 0), some (sqD (gl, gr)), some sh.toD, some m.toD, some (sqD (B0, B1)), some (v), some (stsD (twoS l2 r2 sh)), some (.int way), none, none, none, none, none, none, none, none, none] [] [A, B] = .go .nx [some S, some (.int dg), some (.bl pl), some (.str x), some (.ref 0), some (sqD (gl, gr)), some sh.toD, some m.toD, some (sqD (B0, B1)), some (v), some (stsD (twoS l r sh)), some (.int way), none, none, none, none, none, none, none, none, none] [A, B] := by
  have eq : ∀ w, gEq (.int way) (.int 3) [] w = .ok (.bl (decide (way = 3))) w := fun _ => rfl
  have s2 : ∀ (a b : D) w, see [] w (D.tup [a, b]) = .tup [a, b] := fun _ _ _ => rfl
  have i0 : ∀ (a b : D) w, gIx (.tup [a, b]) (.int 0) [] w = .ok a w := fun _ _ _ => rfl
  have i1 : ∀ (a b : D) w, gIx (.tup [a, b]) (.int 1) [] w = .ok b w := fun _ _ _ => rfl
  have h1 : (Fm.imp m m).ht ≤ 4 := by
    have := b.m1
    simp only [Fm.ht]
    omega
  have h2 : (Fm.imp m m).Over SOk := ⟨b.m2, b.m2⟩
  have h3 : it → Fo.md (Fm.imp m m) = 0 := fun e => by
    have := b.m3 e
    simp only [Fo.md]
    omega
  have a0 := add_run b.b0 (Nat.le_trans b.m1 (by decide)) b.m2
  have a1 : ∀ w, ev 59 .f_law_add [fT B1, .lst [.tup [.str "implies", m.toD, m.toD]]] [] w = .ok (fT (As (B1 ++ [.imp m m]))) w := add_run (φ := .imp m m) b.b1 h1 h2
  have k1 : SP it 6 (As (B1 ++ [.imp m m])) := (b.b1.snoc h1 h2 h3).as
  have t1 := two_run b b.am.1 k1
  rw [x_ifS]
  by_cases c : way = 3
  · refine ⟨_, _, b.am.1, k1, ?_⟩
    rw [decide_eq_true c] at eq
    simp only [x_and, x_or, x_not, x_andT, x_orT, x_notT, x_tru, x_test, x_bin, x_un, x_tup, x_lst, x_call, x_call0, x_args, x_args0, x_var, x_k, x_one, x_nil, x_if, List.getElem?_cons_zero, List.getElem?_cons_succ, ofO_ss, an_ok, List.length_cons, List.length_nil, Nat.zero_add, Nat.reduceAdd, if_true, Bool.false_eq_true, if_false, see_int, see_str, see_bl, see_lst, see_tup, see_non, bool_bl, truth_bl, st_ok, oan_nx, oan_rt, oan_bk, oan_ct, fin_rt, fin_nx, tn_nx, tn_rt, tn_ct, tn_bk, andV_bl, orV_bl, notV_bl, List.set_cons_succ, List.set_cons_zero, Bool.not_true, Bool.not_false, Bool.true_and, add_int, sub_int, eq_int, ne_int, lt_int, le_int, gt_int, ge_int, int_int, int_bl, len_lst, len_tup, List.map_cons, List.map_nil, List.length_map, eq]
    rw [x_set]
    simp only [x_and, x_or, x_not, x_andT, x_orT, x_notT, x_tru, x_test, x_bin, x_un, x_tup, x_lst, x_call, x_call0, x_args, x_args0, x_var, x_k, x_one, x_nil, x_if, List.getElem?_cons_zero, List.getElem?_cons_succ, ofO_ss, an_ok, List.length_cons, List.length_nil, Nat.zero_add, Nat.reduceAdd, if_true, Bool.false_eq_true, if_false, see_int, see_str, see_bl, see_lst, see_tup, see_non, bool_bl, truth_bl, st_ok, oan_nx, oan_rt, oan_bk, oan_ct, fin_rt, fin_nx, tn_nx, tn_rt, tn_ct, tn_bk, andV_bl, orV_bl, notV_bl, List.set_cons_succ, List.set_cons_zero, Bool.not_true, Bool.not_false, Bool.true_and, add_int, sub_int, eq_int, ne_int, lt_int, le_int, gt_int, ge_int, int_int, int_bl, len_lst, len_tup, List.map_cons, List.map_nil, List.length_map, s2, i0, i1, a0, a1, t1]
  · refine ⟨l2, r2, hl, hr, ?_⟩
    rw [decide_eq_false c] at eq
    simp only [x_and, x_or, x_not, x_andT, x_orT, x_notT, x_tru, x_test, x_bin, x_un, x_tup, x_lst, x_call, x_call0, x_args, x_args0, x_var, x_k, x_one, x_nil, x_if, List.getElem?_cons_zero, List.getElem?_cons_succ, ofO_ss, an_ok, List.length_cons, List.length_nil, Nat.zero_add, Nat.reduceAdd, if_true, Bool.false_eq_true, if_false, see_int, see_str, see_bl, see_lst, see_tup, see_non, bool_bl, truth_bl, st_ok, oan_nx, oan_rt, oan_bk, oan_ct, fin_rt, fin_nx, tn_nx, tn_rt, tn_ct, tn_bk, andV_bl, orV_bl, notV_bl, List.set_cons_succ, List.set_cons_zero, Bool.not_true, Bool.not_false, Bool.true_and, add_int, sub_int, eq_int, ne_int, lt_int, le_int, gt_int, ge_int, int_int, int_bl, len_lst, len_tup, List.map_cons, List.map_nil, List.length_map, eq, x_nil]
theorem way_4 (b : Bs it B0 B1 sh m) {v v' : D} : ∃ q : Fm, q.ht ≤ 4 ∧ q.Over SOk ∧ (it → Fo.md q = 0) ∧ (sIf (cTest (cBin gEq (cVar 11) (cK (.int 4)))) (sSet 12 (cTup (cArgs [cK (.str "and"), cVar 7, cVar 7]))) (sNil)) [some S, some (.int dg), some (.bl pl), some (.str x), some (.ref 0), some (sqD (gl, gr)), some sh.toD, some m.toD, some (sqD (B0, B1)), some (v), some (v'), some (.int way), some m.toD, none, none, none, none, none, none, none, none] [] [A, B] = .go .nx [some S, some (.int dg), some (.bl pl), some (.str x), some (.ref 0), some (sqD (gl, gr)), some sh.toD, some m.toD, some (sqD (B0, B1)), some (v), some (v'), some (.int way), some q.toD, none, none, none, none, none, none, none, none] [A, B] := by
  have eq : ∀ w, gEq (.int way) (.int 4) [] w = .ok (.bl (decide (way = 4))) w := fun _ => rfl
  rw [x_ifS]
  by_cases c : way = 4
  · refine ⟨.and m m, ?_, ⟨b.m2, b.m2⟩, fun e => ?_, ?_⟩
    · have := b.m1
      simp only [Fm.ht]
      omega
    · have := b.m3 e
      simp only [Fo.md]
      omega
    · rw [decide_eq_true c] at eq
      simp only [x_and, x_or, x_not, x_andT, x_orT, x_notT, x_tru, x_test, x_bin, x_un, x_tup, x_lst, x_call, x_call0, x_args, x_args0, x_var, x_k, x_one, x_nil, x_if, List.getElem?_cons_zero, List.getElem?_cons_succ, ofO_ss, an_ok, List.length_cons, List.length_nil, Nat.zero_add, Nat.reduceAdd, if_true, Bool.false_eq_true, if_false, see_int, see_str, see_bl, see_lst, see_tup, see_non, bool_bl, truth_bl, st_ok, oan_nx, oan_rt, oan_bk, oan_ct, fin_rt, fin_nx, tn_nx, tn_rt, tn_ct, tn_bk, andV_bl, orV_bl, notV_bl, List.set_cons_succ, List.set_cons_zero, Bool.not_true, Bool.not_false, Bool.true_and, add_int, sub_int, eq_int, ne_int, lt_int, le_int, gt_int, ge_int, int_int, int_bl, len_lst, len_tup, List.map_cons, List.map_nil, List.length_map, eq]
      rw [x_set]
      simp only [x_and, x_or, x_not, x_andT, x_orT, x_notT, x_tru, x_test, x_bin, x_un, x_tup, x_lst, x_call, x_call0, x_args, x_args0, x_var, x_k, x_one, x_nil, x_if, List.getElem?_cons_zero, List.getElem?_cons_succ, ofO_ss, an_ok, List.length_cons, List.length_nil, Nat.zero_add, Nat.reduceAdd, if_true, Bool.false_eq_true, if_false, see_int, see_str, see_bl, see_lst, see_tup, see_non, bool_bl, truth_bl, st_ok, oan_nx, oan_rt, oan_bk, oan_ct, fin_rt, fin_nx, tn_nx, tn_rt, tn_ct, tn_bk, andV_bl, orV_bl, notV_bl, List.set_cons_succ, List.set_cons_zero, Bool.not_true, Bool.not_false, Bool.true_and, add_int, sub_int, eq_int, ne_int, lt_int, le_int, gt_int, ge_int, int_int, int_bl, len_lst, len_tup, List.map_cons, List.map_nil, List.length_map]
      rfl
  · refine ⟨m, Nat.le_trans b.m1 (by decide), b.m2, b.m3, ?_⟩
    rw [decide_eq_false c] at eq
    simp only [x_and, x_or, x_not, x_andT, x_orT, x_notT, x_tru, x_test, x_bin, x_un, x_tup, x_lst, x_call, x_call0, x_args, x_args0, x_var, x_k, x_one, x_nil, x_if, List.getElem?_cons_zero, List.getElem?_cons_succ, ofO_ss, an_ok, List.length_cons, List.length_nil, Nat.zero_add, Nat.reduceAdd, if_true, Bool.false_eq_true, if_false, see_int, see_str, see_bl, see_lst, see_tup, see_non, bool_bl, truth_bl, st_ok, oan_nx, oan_rt, oan_bk, oan_ct, fin_rt, fin_nx, tn_nx, tn_rt, tn_ct, tn_bk, andV_bl, orV_bl, notV_bl, List.set_cons_succ, List.set_cons_zero, Bool.not_true, Bool.not_false, Bool.true_and, add_int, sub_int, eq_int, ne_int, lt_int, le_int, gt_int, ge_int, int_int, int_bl, len_lst, len_tup, List.map_cons, List.map_nil, List.length_map, eq, x_nil]
end
theorem law_true (ns : List Int) (hns : ns.length ≤ 63) : ∃ w', ev 60 .f_law [.lst (ns.map .int)] [] [] = .ok (.bl true) w' := by
  have hs : sizeLine = 16777216 := rfl
  obtain ⟨c0, e0⟩ := e_cell (n := 58) (i := 0) (ns := ns) (ro := []) (w := [])
  have e0' : ev 59 .f_law_cell [.lst (ns.map .int), .int 0] [] [] = .ok (.int c0) [] := e0
  generalize hdg : ((c0.natAbs : Nat) : Int) = dg
  have h0 : 0 ≤ dg := by omega
  have ab : ∀ w, gAbs (.int c0) [] w = .ok (.int dg) w := fun w => by rw [← hdg]; rfl
  obtain ⟨c1, e1⟩ := e_cell (n := 58) (i := 1) (ns := ns) (ro := []) (w := [])
  have e1' : ev 59 .f_law_cell [.lst (ns.map .int), .int 1] [] [] = .ok (.int c1) [] := e1
  have ab1 : ∀ w, gAbs (.int c1) [] w = .ok (.int (c1.natAbs : Int)) w := fun w => rfl
  obtain ⟨xs, px, n1⟩ := e_nums (n := 59) (by omega) ns 2 40 [] hns (by decide) (by decide)
  have n1' : ev 59 .f_law_numbers [.lst (ns.map .int), .int 2, .int 40] [] [] = .ok (.ref 0) [.lst (xs.map .int)] := n1
  generalize hS : (D.lst (ns.map .int)) = S at *
  have m2 : ∀ w, gMod (.int dg) (.int 2) [] w = .ok (.int (dg % 2)) w := fun w => by rw [mod_int, if_pos (by decide)]
  have d2 : ∀ w, gDiv (.int dg) (.int 2) [] w = .ok (.int (dg / 2)) w := fun w => by rw [div_int, if_pos (by decide)]
  have m8 : ∀ w, gMod (.int (dg / 2)) (.int 8) [] w = .ok (.int (dg / 2 % 8)) w := fun w => by rw [mod_int, if_pos (by decide)]
  generalize hw : dg / 2 % 8 = way at m8
  generalize hb : decide (dg % 2 = 0) = pl
  obtain ⟨x, hx, hm, hi, lg⟩ := e_logic (n := 58) (a := (c1.natAbs : Int)) (b := pl) (ro := []) (w := [])
  have lg' : ev 59 .f_law_logic [.int (c1.natAbs : Int), .bl pl] [] [] = .ok (.str x) [] := lg
  obtain ⟨gl, gr, p1, dl, dr, _, _, ge⟩ := e_goal (n := 58) (by omega) (mo := 2) (by decide) (pl := pl) xs
  have ge' : ev 59 .f_law_goal [.ref 0, .int 2, .bl pl] [] [.lst (xs.map .int)] = .ok (.tup [fT gl, fT gr]) [.lst (p1.map .int), .lst [fT gl, fT gr]] := ge
  obtain ⟨sh, p2, sf, st1, so, sp⟩ := e_form (d := 1) (n := 59) (by omega) [.lst (p1.map .int), .lst [fT gl, fT gr]] 0 p1 pl rfl
  have sf' : ev 59 .f_law_formula [.ref 0, .int 1, .bl pl] [] [.lst (p1.map .int), .lst [fT gl, fT gr]] = .ok sh.toD [.lst (p2.map .int), .lst [fT gl, fT gr]] := sf
  obtain ⟨m, p3, mf, mt1, mo, mp⟩ := e_form (d := 2) (n := 59) (by omega) [.lst (p2.map .int), .lst [fT gl, fT gr]] 0 p2 pl rfl
  have mf' : ev 59 .f_law_formula [.ref 0, .int 2, .bl pl] [] [.lst (p2.map .int), .lst [fT gl, fT gr]] = .ok m.toD [.lst (p3.map .int), .lst [fT gl, fT gr]] := mf
  have so' : sh.Over SOk := Fm.Over.mono (fun x h => pqr_ok x h) sh so
  have mo' : m.Over SOk := Fm.Over.mono (fun x h => pqr_ok x h) m mo
  have sz : memB interL x = true → Fo.md sh = 0 := fun e => plain_iff.mp (sp (hi e))
  have mz : memB interL x = true → Fo.md m = 0 := fun e => plain_iff.mp (mp (hi e))
  have side : ∀ {l : List Fm}, Dr pl l → SP (memB interL x = true) 3 l := fun h => ⟨⟨fun φ hφ => Nat.le_trans (h.ht φ hφ) (by decide), h.ov, h.few⟩, fun e φ hφ => plain_iff.mp (h.pl (hi e) φ hφ)⟩
  have b0 : SP (memB interL x = true) 5 (As (gl ++ [sh])) := ((side dl).snoc (by omega) so' sz).as.more (by decide)
  have b1 : SP (memB interL x = true) 5 (As (gr ++ [sh])) := ((side dr).snoc (by omega) so' sz).as.more (by decide)
  have b : Bs (memB interL x = true) (As (gl ++ [sh])) (As (gr ++ [sh])) sh m := ⟨b0, b1, by omega, so', sz, by omega, mo', mz⟩
  have l5 := add_run (it := memB interL x = true) ((side dl).more (j := 5) (by decide)) (φ := sh) (by omega) so'
  have r5 := add_run (it := memB interL x = true) ((side dr).more (j := 5) (by decide)) (φ := sh) (by omega) so'
  have lm := add_run b.b0 (φ := m) (by omega) mo'
  have rm := add_run b.b1 (φ := m) (by omega) mo'
  have t9 := two_run b (b.b0.more (by decide)) b.am.2
  have t10 := two_run b b.am.1 (b.b1.more (by decide))
  have s2 : ∀ (a b : D) w, see [] w (D.tup [a, b]) = .tup [a, b] := fun _ _ _ => rfl
  have i0 : ∀ (a b : D) w, gIx (.tup [a, b]) (.int 0) [] w = .ok a w := fun _ _ _ => rfl
  have i1 : ∀ (a b : D) w, gIx (.tup [a, b]) (.int 1) [] w = .ok b w := fun _ _ _ => rfl
  have run : ∃ w', (b_law (ev 59) [some S, none, none, none, none, none, none, none, none, none, none, none, none, none, none, none, none, none, none, none, none] [] []).fin = .ok (.bl true) w' := by
    unfold b_law
    rw [x_seq, x_set]
    simp only [x_and, x_or, x_not, x_andT, x_orT, x_notT, x_tru, x_test, x_bin, x_un, x_tup, x_lst, x_call, x_call0, x_args, x_args0, x_var, x_k, x_one, x_nil, x_if, List.getElem?_cons_zero, List.getElem?_cons_succ, ofO_ss, an_ok, List.length_cons, List.length_nil, Nat.zero_add, Nat.reduceAdd, if_true, Bool.false_eq_true, if_false, see_int, see_str, see_bl, see_lst, see_tup, see_non, bool_bl, truth_bl, st_ok, oan_nx, oan_rt, oan_bk, oan_ct, fin_rt, fin_nx, tn_nx, tn_rt, tn_ct, tn_bk, andV_bl, orV_bl, notV_bl, List.set_cons_succ, List.set_cons_zero, Bool.not_true, Bool.not_false, Bool.true_and, add_int, sub_int, eq_int, ne_int, lt_int, le_int, gt_int, ge_int, int_int, int_bl, len_lst, len_tup, List.map_cons, List.map_nil, List.length_map, e0', x_one, ab]
    rw [x_seq, x_set]
    simp only [x_and, x_or, x_not, x_andT, x_orT, x_notT, x_tru, x_test, x_bin, x_un, x_tup, x_lst, x_call, x_call0, x_args, x_args0, x_var, x_k, x_one, x_nil, x_if, List.getElem?_cons_zero, List.getElem?_cons_succ, ofO_ss, an_ok, List.length_cons, List.length_nil, Nat.zero_add, Nat.reduceAdd, if_true, Bool.false_eq_true, if_false, see_int, see_str, see_bl, see_lst, see_tup, see_non, bool_bl, truth_bl, st_ok, oan_nx, oan_rt, oan_bk, oan_ct, fin_rt, fin_nx, tn_nx, tn_rt, tn_ct, tn_bk, andV_bl, orV_bl, notV_bl, List.set_cons_succ, List.set_cons_zero, Bool.not_true, Bool.not_false, Bool.true_and, add_int, sub_int, eq_int, ne_int, lt_int, le_int, gt_int, ge_int, int_int, int_bl, len_lst, len_tup, List.map_cons, List.map_nil, List.length_map, x_one, m2, hb]
    rw [x_seq, x_set]
    simp only [x_and, x_or, x_not, x_andT, x_orT, x_notT, x_tru, x_test, x_bin, x_un, x_tup, x_lst, x_call, x_call0, x_args, x_args0, x_var, x_k, x_one, x_nil, x_if, List.getElem?_cons_zero, List.getElem?_cons_succ, ofO_ss, an_ok, List.length_cons, List.length_nil, Nat.zero_add, Nat.reduceAdd, if_true, Bool.false_eq_true, if_false, see_int, see_str, see_bl, see_lst, see_tup, see_non, bool_bl, truth_bl, st_ok, oan_nx, oan_rt, oan_bk, oan_ct, fin_rt, fin_nx, tn_nx, tn_rt, tn_ct, tn_bk, andV_bl, orV_bl, notV_bl, List.set_cons_succ, List.set_cons_zero, Bool.not_true, Bool.not_false, Bool.true_and, add_int, sub_int, eq_int, ne_int, lt_int, le_int, gt_int, ge_int, int_int, int_bl, len_lst, len_tup, List.map_cons, List.map_nil, List.length_map, x_one, e1', ab1, lg']
    rw [x_seq, x_set]
    simp only [x_and, x_or, x_not, x_andT, x_orT, x_notT, x_tru, x_test, x_bin, x_un, x_tup, x_lst, x_call, x_call0, x_args, x_args0, x_var, x_k, x_one, x_nil, x_if, List.getElem?_cons_zero, List.getElem?_cons_succ, ofO_ss, an_ok, List.length_cons, List.length_nil, Nat.zero_add, Nat.reduceAdd, if_true, Bool.false_eq_true, if_false, see_int, see_str, see_bl, see_lst, see_tup, see_non, bool_bl, truth_bl, st_ok, oan_nx, oan_rt, oan_bk, oan_ct, fin_rt, fin_nx, tn_nx, tn_rt, tn_ct, tn_bk, andV_bl, orV_bl, notV_bl, List.set_cons_succ, List.set_cons_zero, Bool.not_true, Bool.not_false, Bool.true_and, add_int, sub_int, eq_int, ne_int, lt_int, le_int, gt_int, ge_int, int_int, int_bl, len_lst, len_tup, List.map_cons, List.map_nil, List.length_map, n1']
    rw [x_seq, x_set]
    simp only [x_and, x_or, x_not, x_andT, x_orT, x_notT, x_tru, x_test, x_bin, x_un, x_tup, x_lst, x_call, x_call0, x_args, x_args0, x_var, x_k, x_one, x_nil, x_if, List.getElem?_cons_zero, List.getElem?_cons_succ, ofO_ss, an_ok, List.length_cons, List.length_nil, Nat.zero_add, Nat.reduceAdd, if_true, Bool.false_eq_true, if_false, see_int, see_str, see_bl, see_lst, see_tup, see_non, bool_bl, truth_bl, st_ok, oan_nx, oan_rt, oan_bk, oan_ct, fin_rt, fin_nx, tn_nx, tn_rt, tn_ct, tn_bk, andV_bl, orV_bl, notV_bl, List.set_cons_succ, List.set_cons_zero, Bool.not_true, Bool.not_false, Bool.true_and, add_int, sub_int, eq_int, ne_int, lt_int, le_int, gt_int, ge_int, int_int, int_bl, len_lst, len_tup, List.map_cons, List.map_nil, List.length_map, ge']
    rw [x_seq, x_set]
    simp only [x_and, x_or, x_not, x_andT, x_orT, x_notT, x_tru, x_test, x_bin, x_un, x_tup, x_lst, x_call, x_call0, x_args, x_args0, x_var, x_k, x_one, x_nil, x_if, List.getElem?_cons_zero, List.getElem?_cons_succ, ofO_ss, an_ok, List.length_cons, List.length_nil, Nat.zero_add, Nat.reduceAdd, if_true, Bool.false_eq_true, if_false, see_int, see_str, see_bl, see_lst, see_tup, see_non, bool_bl, truth_bl, st_ok, oan_nx, oan_rt, oan_bk, oan_ct, fin_rt, fin_nx, tn_nx, tn_rt, tn_ct, tn_bk, andV_bl, orV_bl, notV_bl, List.set_cons_succ, List.set_cons_zero, Bool.not_true, Bool.not_false, Bool.true_and, add_int, sub_int, eq_int, ne_int, lt_int, le_int, gt_int, ge_int, int_int, int_bl, len_lst, len_tup, List.map_cons, List.map_nil, List.length_map, sf']
    rw [x_seq, x_set]
    simp only [x_and, x_or, x_not, x_andT, x_orT, x_notT, x_tru, x_test, x_bin, x_un, x_tup, x_lst, x_call, x_call0, x_args, x_args0, x_var, x_k, x_one, x_nil, x_if, List.getElem?_cons_zero, List.getElem?_cons_succ, ofO_ss, an_ok, List.length_cons, List.length_nil, Nat.zero_add, Nat.reduceAdd, if_true, Bool.false_eq_true, if_false, see_int, see_str, see_bl, see_lst, see_tup, see_non, bool_bl, truth_bl, st_ok, oan_nx, oan_rt, oan_bk, oan_ct, fin_rt, fin_nx, tn_nx, tn_rt, tn_ct, tn_bk, andV_bl, orV_bl, notV_bl, List.set_cons_succ, List.set_cons_zero, Bool.not_true, Bool.not_false, Bool.true_and, add_int, sub_int, eq_int, ne_int, lt_int, le_int, gt_int, ge_int, int_int, int_bl, len_lst, len_tup, List.map_cons, List.map_nil, List.length_map, mf']
    rw [x_seq, x_set]
    simp only [x_and, x_or, x_not, x_andT, x_orT, x_notT, x_tru, x_test, x_bin, x_un, x_tup, x_lst, x_call, x_call0, x_args, x_args0, x_var, x_k, x_one, x_nil, x_if, List.getElem?_cons_zero, List.getElem?_cons_succ, ofO_ss, an_ok, List.length_cons, List.length_nil, Nat.zero_add, Nat.reduceAdd, if_true, Bool.false_eq_true, if_false, see_int, see_str, see_bl, see_lst, see_tup, see_non, bool_bl, truth_bl, st_ok, oan_nx, oan_rt, oan_bk, oan_ct, fin_rt, fin_nx, tn_nx, tn_rt, tn_ct, tn_bk, andV_bl, orV_bl, notV_bl, List.set_cons_succ, List.set_cons_zero, Bool.not_true, Bool.not_false, Bool.true_and, add_int, sub_int, eq_int, ne_int, lt_int, le_int, gt_int, ge_int, int_int, int_bl, len_lst, len_tup, List.map_cons, List.map_nil, List.length_map, s2, i0, i1, l5, r5]
    rw [x_seq, x_set]
    simp only [x_and, x_or, x_not, x_andT, x_orT, x_notT, x_tru, x_test, x_bin, x_un, x_tup, x_lst, x_call, x_call0, x_args, x_args0, x_var, x_k, x_one, x_nil, x_if, List.getElem?_cons_zero, List.getElem?_cons_succ, ofO_ss, an_ok, List.length_cons, List.length_nil, Nat.zero_add, Nat.reduceAdd, if_true, Bool.false_eq_true, if_false, see_int, see_str, see_bl, see_lst, see_tup, see_non, bool_bl, truth_bl, st_ok, oan_nx, oan_rt, oan_bk, oan_ct, fin_rt, fin_nx, tn_nx, tn_rt, tn_ct, tn_bk, andV_bl, orV_bl, notV_bl, List.set_cons_succ, List.set_cons_zero, Bool.not_true, Bool.not_false, Bool.true_and, add_int, sub_int, eq_int, ne_int, lt_int, le_int, gt_int, ge_int, int_int, int_bl, len_lst, len_tup, List.map_cons, List.map_nil, List.length_map, s2, i0, i1, rm, t9]
    rw [x_seq, x_set]
    simp only [x_and, x_or, x_not, x_andT, x_orT, x_notT, x_tru, x_test, x_bin, x_un, x_tup, x_lst, x_call, x_call0, x_args, x_args0, x_var, x_k, x_one, x_nil, x_if, List.getElem?_cons_zero, List.getElem?_cons_succ, ofO_ss, an_ok, List.length_cons, List.length_nil, Nat.zero_add, Nat.reduceAdd, if_true, Bool.false_eq_true, if_false, see_int, see_str, see_bl, see_lst, see_tup, see_non, bool_bl, truth_bl, st_ok, oan_nx, oan_rt, oan_bk, oan_ct, fin_rt, fin_nx, tn_nx, tn_rt, tn_ct, tn_bk, andV_bl, orV_bl, notV_bl, List.set_cons_succ, List.set_cons_zero, Bool.not_true, Bool.not_false, Bool.true_and, add_int, sub_int, eq_int, ne_int, lt_int, le_int, gt_int, ge_int, int_int, int_bl, len_lst, len_tup, List.map_cons, List.map_nil, List.length_map, s2, i0, i1, lm, t10]
    rw [x_seq, x_set]
    simp only [x_and, x_or, x_not, x_andT, x_orT, x_notT, x_tru, x_test, x_bin, x_un, x_tup, x_lst, x_call, x_call0, x_args, x_args0, x_var, x_k, x_one, x_nil, x_if, List.getElem?_cons_zero, List.getElem?_cons_succ, ofO_ss, an_ok, List.length_cons, List.length_nil, Nat.zero_add, Nat.reduceAdd, if_true, Bool.false_eq_true, if_false, see_int, see_str, see_bl, see_lst, see_tup, see_non, bool_bl, truth_bl, st_ok, oan_nx, oan_rt, oan_bk, oan_ct, fin_rt, fin_nx, tn_nx, tn_rt, tn_ct, tn_bk, andV_bl, orV_bl, notV_bl, List.set_cons_succ, List.set_cons_zero, Bool.not_true, Bool.not_false, Bool.true_and, add_int, sub_int, eq_int, ne_int, lt_int, le_int, gt_int, ge_int, int_int, int_bl, len_lst, len_tup, List.map_cons, List.map_nil, List.length_map, d2, m8]
    obtain ⟨l2, r2, hl2, hr2, k1⟩ := way_1 (S := S) (A := .lst (p3.map .int)) (B := .lst [fT gl, fT gr]) (dg := dg) (way := way) (pl := pl) (x := x) (gl := gl) (gr := gr) b (v := stsD (twoS (As (gl ++ [sh])) (As (As (gr ++ [sh]) ++ [m])) sh)) b.am.1 (b.b1.more (by decide))
    obtain ⟨l1, r1, hl1, hr1, k2⟩ := way_2 (S := S) (A := .lst (p3.map .int)) (B := .lst [fT gl, fT gr]) (dg := dg) (way := way) (pl := pl) (x := x) (gl := gl) (gr := gr) b (v := stsD (twoS l2 r2 sh)) (b.b0.more (by decide)) b.am.2
    obtain ⟨l3, r3, hl3, hr3, k3⟩ := way_3 (S := S) (A := .lst (p3.map .int)) (B := .lst [fT gl, fT gr]) (dg := dg) (way := way) (pl := pl) (x := x) (gl := gl) (gr := gr) b (v := stsD (twoS l1 r1 sh)) hl2 hr2
    obtain ⟨q, qh, qo, qz, k4⟩ := way_4 (S := S) (A := .lst (p3.map .int)) (B := .lst [fT gl, fT gr]) (dg := dg) (way := way) (pl := pl) (x := x) (gl := gl) (gr := gr) b (v := stsD (twoS l1 r1 sh)) (v' := stsD (twoS l3 r3 sh))
    rw [x_seq, k1, oan_nx, x_seq, k2, oan_nx, x_seq, k3, oan_nx, x_seq, x_set]
    simp only [x_and, x_or, x_not, x_andT, x_orT, x_notT, x_tru, x_test, x_bin, x_un, x_tup, x_lst, x_call, x_call0, x_args, x_args0, x_var, x_k, x_one, x_nil, x_if, List.getElem?_cons_zero, List.getElem?_cons_succ, ofO_ss, an_ok, List.length_cons, List.length_nil, Nat.zero_add, Nat.reduceAdd, if_true, Bool.false_eq_true, if_false, see_int, see_str, see_bl, see_lst, see_tup, see_non, bool_bl, truth_bl, st_ok, oan_nx, oan_rt, oan_bk, oan_ct, fin_rt, fin_nx, tn_nx, tn_rt, tn_ct, tn_bk, andV_bl, orV_bl, notV_bl, List.set_cons_succ, List.set_cons_zero, Bool.not_true, Bool.not_false, Bool.true_and, add_int, sub_int, eq_int, ne_int, lt_int, le_int, gt_int, ge_int, int_int, int_bl, len_lst, len_tup, List.map_cons, List.map_nil, List.length_map]
    rw [x_seq, k4, oan_nx]
    exact tail_ok hx hm hl1.sh hr1.sh hl3.sh hr3.sh (by omega) so' qh qo fun e => ⟨sz e, qz e, fun φ hφ => (List.mem_append.mp hφ).elim (hl1.pl e φ) (hr1.pl e φ), fun φ hφ => (List.mem_append.mp hφ).elim (hl3.pl e φ) (hr3.pl e φ)⟩
  obtain ⟨w', r⟩ := run
  refine ⟨w', ?_⟩
  rw [q_law, x_def]
  simp only [List.length_cons, List.length_nil, Nat.zero_add, Nat.reduceAdd, if_true, List.map_cons, List.map_nil, Nat.reduceSub, List.replicate, List.cons_append, List.nil_append]
  exact r
end K
open PySem PySem.W PyProof.Rows
set_option maxHeartbeats 0 in
theorem PySem.Challenge.cw_elsewhere_k39_joined_derivations_holds : PySem.Challenge.rw_elsewhere_k39_joined_derivations.Holds := by
  w_on; o_law; k_head; (case hw => w_witness2)
  k_fill
  refine Fx.law_end (l := PySem.Challenge.rw_elsewhere_k39_joined_derivations) (N := 60) (x := "_law_script") (g := K.ev 60 .f_law) rfl rfl ⟨rfl, by decide, by decide⟩ (fun w h Y => PySem.W.kIn_of Y) ?F K.law_true
  case F =>
    intro w mg fa h KX G hmg
    refine' K.fin_ok (K.ad_mk KX G hmg ?a0 ?l0 ?c0 ?k0 ?a1 ?l1 ?c1 ?k1 ?a2 ?l2 ?c2 ?k2 ?a3 ?l3 ?c3 ?k3 ?a4 ?l4 ?c4 ?k4 ?a5 ?l5 ?c5 ?k5 ?a6 ?l6 ?c6 ?k6 ?a7 ?l7 ?c7 ?k7 ?a8 ?l8 ?c8 ?k8 ?a9 ?l9 ?c9 ?k9 ?a10 ?l10 ?c10 ?k10 ?a11 ?l11 ?c11 ?k11 ?a12 ?l12 ?c12 ?k12 ?a13 ?l13 ?c13 ?k13 ?a14 ?l14 ?c14 ?k14 ?a15 ?l15 ?c15 ?k15 ?a16 ?l16 ?c16 ?k16 ?a17 ?l17 ?c17 ?k17 ?a18 ?l18 ?c18 ?k18 ?a19 ?l19 ?c19 ?k19 ?a20 ?l20 ?c20 ?k20 ?a21 ?l21 ?c21 ?k21 ?a22 ?l22 ?c22 ?k22 ?a23 ?l23 ?c23 ?k23 ?a24 ?l24 ?c24 ?k24 ?a25 ?l25 ?c25 ?k25 ?z0 ?z1 ?z2 ?z3 ?z4 ?z5 ?z6 ?z7 ?z8 ?z9 ?cg0 ?ch0 ?cg1 ?ch1 ?ta0 ?tb0 ?tc0 ?ti0_0 ?tl0_0 ?tl0_2 ?ti0_1 ?tl0_3 ?tl0_5 ?xos0 ?tm0_0 ?xa0 ?xb0 ?xc0 ?xd0 ?xe0 ?xf0 ?xg0 ?xh0 ?xi0 ?xj0 ?xk0 ?xl0 ?xa1 ?xb1 ?xc1 ?xd1 ?xe1 ?xf1 ?xg1 ?xh1 ?xi1 ?xj1 ?xk1 ?xl1 ?xa2 ?xd2 ?xe2 ?xh2 ?xm0_1 ?xo0_1 ?xm0_2 ?xo0_2 ?xm1_1 ?xo1_1 ?xm1_2 ?xo1_2)
    (case a0 => k_is)
    (case l0 => k_is)
    (case c0 => k_is)
    (case k0 => k_is)
    (case a1 => k_is)
    (case l1 => k_is)
    (case c1 => k_is)
    (case k1 => k_is)
    (case a2 => k_is)
    (case l2 => k_is)
    (case c2 => k_is)
    (case k2 => k_is)
    (case a3 => k_is)
    (case l3 => k_is)
    (case c3 => k_is)
    (case k3 => k_is)
    (case a4 => k_is)
    (case l4 => k_is)
    (case c4 => k_is)
    (case k4 => k_is)
    (case a5 => k_is)
    (case l5 => k_is)
    (case c5 => k_is)
    (case k5 => k_is)
    (case a6 => k_is)
    (case l6 => k_is)
    (case c6 => k_is)
    (case k6 => k_is)
    (case a7 => k_is)
    (case l7 => k_is)
    (case c7 => k_is)
    (case k7 => k_is)
    (case a8 => k_is)
    (case l8 => k_is)
    (case c8 => k_is)
    (case k8 => k_is)
    (case a9 => k_is)
    (case l9 => k_is)
    (case c9 => k_is)
    (case k9 => k_is)
    (case a10 => k_is)
    (case l10 => k_is)
    (case c10 => k_is)
    (case k10 => k_is)
    (case a11 => k_is)
    (case l11 => k_is)
    (case c11 => k_is)
    (case k11 => k_is)
    (case a12 => k_is)
    (case l12 => k_is)
    (case c12 => k_is)
    (case k12 => k_is)
    (case a13 => k_is)
    (case l13 => k_is)
    (case c13 => k_is)
    (case k13 => k_is)
    (case a14 => k_is)
    (case l14 => k_is)
    (case c14 => k_is)
    (case k14 => k_is)
    (case a15 => k_is)
    (case l15 => k_is)
    (case c15 => k_is)
    (case k15 => k_is)
    (case a16 => k_is)
    (case l16 => k_is)
    (case c16 => k_is)
    (case k16 => k_is)
    (case a17 => k_is)
    (case l17 => k_is)
    (case c17 => k_is)
    (case k17 => k_is)
    (case a18 => k_is)
    (case l18 => k_is)
    (case c18 => k_is)
    (case k18 => k_is)
    (case a19 => k_is)
    (case l19 => k_is)
    (case c19 => k_is)
    (case k19 => k_is)
    (case a20 => k_is)
    (case l20 => k_is)
    (case c20 => k_is)
    (case k20 => k_is)
    (case a21 => k_is)
    (case l21 => k_is)
    (case c21 => k_is)
    (case k21 => k_is)
    (case a22 => k_is)
    (case l22 => k_is)
    (case c22 => k_is)
    (case k22 => k_is)
    (case a23 => k_is)
    (case l23 => k_is)
    (case c23 => k_is)
    (case k23 => k_is)
    (case a24 => k_is)
    (case l24 => k_is)
    (case c24 => k_is)
    (case k24 => k_is)
    (case a25 => k_is)
    (case l25 => k_is)
    (case c25 => k_is)
    (case k25 => k_is)
    (case z0 => k_is)
    (case z1 => k_is)
    (case z2 => k_is)
    (case z3 => k_is)
    (case z4 => k_is)
    (case z5 => k_is)
    (case z6 => k_is)
    (case z7 => k_is)
    (case z8 => k_is)
    (case z9 => k_is)
    (case cg0 => k_is)
    (case ch0 => k_is)
    (case cg1 => k_is)
    (case ch1 => k_is)
    (case ta0 => k_is)
    (case tb0 => k_is)
    (case tc0 => k_keys)
    (case ti0_0 => k_is)
    (case tl0_0 => k_is)
    (case tl0_2 => k_is)
    (case ti0_1 => k_is)
    (case tl0_3 => k_is)
    (case tl0_5 => k_is)
    (case xos0 => rfl)
    (case tm0_0 => k_is)
    (case xa0 => k_is)
    (case xb0 => k_exc)
    (case xc0 => k_is)
    (case xd0 => k_is)
    (case xe0 => k_is)
    (case xf0 => k_is)
    (case xg0 => k_is)
    (case xh0 => k_is)
    (case xi0 => k_is)
    (case xj0 => k_is)
    (case xk0 => k_is)
    (case xl0 => k_is)
    (case xa1 => k_is)
    (case xb1 => k_exc)
    (case xc1 => k_is)
    (case xd1 => k_is)
    (case xe1 => k_is)
    (case xf1 => k_is)
    (case xg1 => k_is)
    (case xh1 => k_is)
    (case xi1 => k_is)
    (case xj1 => k_is)
    (case xk1 => k_is)
    (case xl1 => k_is)
    (case xa2 => k_is)
    (case xd2 => k_is)
    (case xe2 => k_is)
    (case xh2 => k_is)
    (case xm0_1 => k_is)
    (case xo0_1 => rfl)
    (case xm0_2 => k_is)
    (case xo0_2 => rfl)
    (case xm1_1 => k_is)
    (case xo1_1 => rfl)
    (case xm1_2 => k_is)
    (case xo1_2 => rfl)
