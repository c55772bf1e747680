import PyProof.Rows.All
import Wide.All
import OpenK.AllK
import Wide.FinOn
import HandS.ForMost
import HandS.Exc
import HandS.ExcOwn
import HandS.WordsExc
import HandS.CallSlots
import KE.KeyNested
import HandS.TupAny
import HandS.Deep
import HandS.IsInst
import HandS.WordsDict
import HandS.SortKw
import KE.DataMinMax
import HandS.CallLocal
import HandS.Dict
import HandS.Sort
import HandS.TryElse
import HandS.ExcIs
import KE.KEqDict
import HandS.Iter
import PyProof.DictRoadsH
import KE.SortCalls
import KE.KDictCopyH
import KE.KDictSum
import HandS.Text
import HandS.More
import KE.GoesMore
import HandS.Zip
import KE.KRevSl
import HandS.SetFor
import HandS.Strs
import HandS.TupSets
import HandS.DictComp
import KE.KDictKeyed
import HandS.TryMany
import HandS.SetBool
import HandS.TupLe
import HandS.WrittenGet
import HandS.Star
import HandS.StrMore
import PyProof.StrBlock2
import PySem.Challenge.RW_elsewhere_k10_heights_and_brackets_at_th
set_option Elab.async false
set_option linter.all false
set_option maxRecDepth 100000
/-! The layer of plain data: what an expression, a statement, a def does, told by functions on trees. -/
namespace Fx
open PySem PySem.Spec L2

/-- a value as a tree; `ref n` is the n-th object that may still change; lists, dicts, instances within a tree stand still -/
inductive D where
  | non | bl (b : Bool) | int (i : Int) | str (x : Str)
  | tup (xs : List D) | lst (xs : List D)
  | dic (ks xs : List D)
  | dct (ks xs : List D)
  | ins (c : Str) (ns : List Str) (xs : List D)
  | fn (x : Str) | ref (n : Nat) | rng (n : Nat)
  deriving Inhabited

def keyOf : D → Option Key
  | .int i => some (.inl i)
  | .str x => some (.inr x)
  | _ => none

mutual
/-- a tuple of texts, numbers and such tuples as a key -/
def toKey : D → Option NestedKey
  | .int i => some (.num i)
  | .str x => some (.text x)
  | .tup ds => (toKeys ds).map .tup
  | _ => none
def toKeys : List D → Option (List NestedKey)
  | [] => some []
  | d :: ds => match toKey d, toKeys ds with
    | some k, some ks => some (k :: ks)
    | _, _ => none
end
/-- a dict whose keys are tuples: its entries -/
def DNo (a : Addr) (es : List DictEntry) (ep : Nat) : HO := .ext fun h => ∃ o, h.get? a = some o ∧ o.ExactDict ∧ o.data = .dict es.toArray ep ∧ es.length ≤ sizeLine ∧ (a == sysModules) = false
/-- range(n) as a thing -/
def RngO (a : Addr) (n : Nat) : HO := .ext fun h => ∃ t u v, IsRange h a 0 n 1 t u v
/-- entries, keys, where the keys stand, values -/
inductive DEnts (w : World) : List DictEntry → List D → List Addr → List V → Prop
  | nil : DEnts w [] [] [] []
  | cons {e : DictEntry} {k : D} {κ : List NestedKey} {a : Addr} {v : V} {es : List DictEntry} {ks : List D} {as : List Addr} {vs : List V} : toKey k = some (.tup κ) → (NestedKey.tup κ).depth ≤ 8 → e.hash = (NestedKey.tup κ).hash w → e.key = .ref a → RelV v e.val → DEnts w es ks as vs → DEnts w (e :: es) (k :: ks) (a :: as) (v :: vs)
/-- a tuple, a list that stands still: tracked and not among the changing ones, or written -/
def KT (K : PySem.W.Frag) (a : Addr) (xs : List V) : Prop := ∃ (o : Obj) (its : Array Value) (n : Nat), K.lookup a = some o ∧ o.cls = .type "tuple" ∧ o.data = .seq its n ∧ its.size ≤ sizeLine ∧ Vals xs its.toList
/-- where the changing objects stand: those that have a number, those that are hidden just now -/
structure Zn where
  r : List Addr
  h : List Addr
def Zn.Out (ρ : Zn) (a : Addr) : Prop := a ∉ ρ.r ∧ a ∉ ρ.h
def KL (K : PySem.W.Frag) (a : Addr) (xs : List V) : Prop := ∃ (o : Obj) (its : Array Value) (n : Nat), K.lookup a = some o ∧ o.cls = .type "list" ∧ o.dict = none ∧ o.data = .seq its n ∧ its.size ≤ sizeLine ∧ Vals xs its.toList
def Still (ρ : Zn) (H : Hp) (a : Addr) (u : HO) : Prop := ρ.Out a ∧ Rd H a u

structure Cfg where
  K : PySem.W.Frag
  mg : Str → Option Value
  w : World

mutual
def Rep (C : Cfg) (ρ : Zn) (H : Hp) : D → V → Prop
  | .non, v => v = .non
  | .bl b, v => v = .bl b
  | .int i, v => v = .int i
  | .str x, v => v = .str x
  | .fn x, v => ∃ a, C.mg x = some (.ref a) ∧ v = .ref a
  | .ref n, v => ∃ a, ρ.r[n]? = some a ∧ v = .ref a
  | .rng n, v => ∃ a, v = .ref a ∧ Still ρ H a (RngO a n)
  | .tup ds, v => ∃ a vs, v = .ref a ∧ (Still ρ H a (.tup vs) ∨ KT C.K a vs) ∧ Reps C ρ H ds vs
  | .lst ds, v => ∃ a vs, v = .ref a ∧ (Still ρ H a (.lst vs) ∨ KL C.K a vs) ∧ Reps C ρ H ds vs
  | .dic ks ds, v => ∃ a kvs, v = .ref a ∧ Still ρ H a (.dK kvs) ∧ ks.map keyOf = kvs.map (fun p => some p.1) ∧ Reps C ρ H ds (kvs.map (·.2))
  | .dct ks ds, v => ∃ a es ep as vs, v = .ref a ∧ Still ρ H a (DNo a es ep) ∧ DEnts C.w es ks as vs ∧ (ks.map toKey).Nodup ∧ Reps C ρ H ks (as.map .ref) ∧ Reps C ρ H ds vs
  | .ins c ns ds, v => ∃ a A dx fs, v = .ref a ∧ C.mg c = some (.ref A) ∧ ρ.Out a ∧ H a = some (.ins A dx fs) ∧ ns = fs.map (·.1) ∧ Reps C ρ H ds (fs.map (·.2))
def Reps (C : Cfg) (ρ : Zn) (H : Hp) : List D → List V → Prop
  | [], vs => vs = []
  | d :: ds, vs => ∃ v r, vs = v :: r ∧ Rep C ρ H d v ∧ Reps C ρ H ds r
end

/-- an object that may change -/
def RepO (C : Cfg) (ρ : Zn) (H : Hp) : D → Addr → Prop
  | .lst ds, a => ∃ vs, H a = some (.lst vs) ∧ Reps C ρ H ds vs
  | .dic ks ds, a => ∃ kvs, H a = some (.dK kvs) ∧ ks.map keyOf = kvs.map (fun p => some p.1) ∧ Reps C ρ H ds (kvs.map (·.2))
  | .dct ks ds, a => ∃ es ep as vs, H a = some (DNo a es ep) ∧ DEnts C.w es ks as vs ∧ (ks.map toKey).Nodup ∧ Reps C ρ H ks (as.map .ref) ∧ Reps C ρ H ds vs
  | .ins c ns ds, a => ∃ A dx fs, C.mg c = some (.ref A) ∧ H a = some (.ins A dx fs) ∧ ns = fs.map (·.1) ∧ Reps C ρ H ds (fs.map (·.2))
  | _, _ => False

structure RepS (C : Cfg) (ρ : Zn) (H : Hp) (w : List D) : Prop where
  len : ρ.r.length = w.length
  nd : ρ.r.Nodup
  obj : ∀ (i : Nat) a d, ρ.r[i]? = some a → w[i]? = some d → RepO C ρ H d a
  hid : ∀ a ∈ ρ.h, a ∉ ρ.r ∧ ∃ o, H a = some o

abbrev Env := List (Option D)
structure RepE (C : Cfg) (ρ : Zn) (H : Hp) (env : Env) (σ : St) : Prop where
  len : env.length = σ.length
  at' : ∀ (i : Nat) d, env[i]? = some (some d) → ∃ v, σ[i]? = some (some v) ∧ Rep C ρ H d v

structure ExtR (ρ ρ' : Zn) (H H' : Hp) : Prop where
  pre : ∃ ν, ρ'.r = ρ.r ++ ν
  keep : ∀ a o, H a = some o → ρ.Out a → H' a = some o ∧ ρ'.Out a
structure Ext (ρ ρ' : Zn) (H H' : Hp) : Prop where
  pre : ∃ ν, ρ'.r = ρ.r ++ ν
  hid : ρ'.h = ρ.h
  keep : ∀ a o, H a = some o → ρ.Out a → H' a = some o ∧ ρ'.Out a
  same : ∀ a ∈ ρ.h, H' a = H a
theorem Ext.r {ρ ρ' : Zn} {H H' : Hp} (x : Ext ρ ρ' H H') : ExtR ρ ρ' H H' := ⟨x.pre, x.keep⟩

theorem Ext.refl {ρ : Zn} {H : Hp} : Ext ρ ρ H H := ⟨⟨[], by simp⟩, rfl, fun _ _ e n => ⟨e, n⟩, fun _ _ => rfl⟩
theorem Ext.trans {ρ ρ1 ρ2 : Zn} {H H1 H2 : Hp} (a : Ext ρ ρ1 H H1) (b : Ext ρ1 ρ2 H1 H2) : Ext ρ ρ2 H H2 := by
  obtain ⟨⟨ν, e1⟩, ha, ka, sa⟩ := a
  obtain ⟨⟨μ, e2⟩, hb, kb, sb⟩ := b
  refine ⟨⟨ν ++ μ, by rw [e2, e1, List.append_assoc]⟩, hb.trans ha, fun c o e n => ?_, fun c hc => (sb c (by rw [ha]; exact hc)).trans (sa c hc)⟩
  obtain ⟨e1, n1⟩ := ka c o e n
  exact kb c o e1 n1
theorem ExtR.ref {ρ ρ' : Zn} {H H' : Hp} (x : ExtR ρ ρ' H H') {n : Nat} {a : Addr} (h : ρ.r[n]? = some a) : ρ'.r[n]? = some a := by
  obtain ⟨⟨ν, e⟩, _⟩ := x
  have hl := (List.getElem?_eq_some_iff.mp h).1
  rw [e, List.getElem?_append_left hl]
  exact h
theorem Still.extR {ρ ρ' : Zn} {H H' : Hp} {a : Addr} {u : HO} (x : ExtR ρ ρ' H H') (h : Still ρ H a u) : Still ρ' H' a u := by
  obtain ⟨n, h | ⟨o, h⟩⟩ := h
  · obtain ⟨e, n'⟩ := x.keep _ _ h n
    exact ⟨n', .inl e⟩
  · obtain ⟨e, n'⟩ := x.keep _ _ h n
    exact ⟨n', .inr ⟨o, e⟩⟩

section
variable {C : Cfg} {ρ ρ' : Zn} {H H' : Hp}
mutual
theorem Rep.extR (x : ExtR ρ ρ' H H') : ∀ (d : D) {v : V}, Rep C ρ H d v → Rep C ρ' H' d v
  | .non, v, h => h
  | .bl b, v, h => h
  | .int i, v, h => h
  | .str i, v, h => h
  | .fn i, v, h => h
  | .rng n, v, ⟨a, e, h⟩ => ⟨a, e, Still.extR x h⟩
  | .ref n, v, ⟨a, h, e⟩ => ⟨a, x.ref h, e⟩
  | .tup ds, v, ⟨a, vs, e, h, r⟩ => ⟨a, vs, e, h.imp (Still.extR x) id, Reps.extR x ds r⟩
  | .lst ds, v, ⟨a, vs, e, h, r⟩ => ⟨a, vs, e, h.imp (Still.extR x) id, Reps.extR x ds r⟩
  | .dic ks ds, v, ⟨a, kvs, e, h, k, r⟩ => ⟨a, kvs, e, Still.extR x h, k, Reps.extR x ds r⟩
  | .dct ks ds, v, ⟨a, es, ep, as, vs, e, h, en, nd, rk, r⟩ => ⟨a, es, ep, as, vs, e, Still.extR x h, en, nd, Reps.extR x ks rk, Reps.extR x ds r⟩
  | .ins c ns ds, v, ⟨a, A, dx, fs, e, m, n, h, k, r⟩ => ⟨a, A, dx, fs, e, m, (x.keep _ _ h n).2, (x.keep _ _ h n).1, k, Reps.extR x ds r⟩
theorem Reps.extR (x : ExtR ρ ρ' H H') : ∀ (ds : List D) {vs : List V}, Reps C ρ H ds vs → Reps C ρ' H' ds vs
  | [], vs, h => h
  | d :: ds, vs, ⟨v, r, e, h1, h2⟩ => ⟨v, r, e, Rep.extR x d h1, Reps.extR x ds h2⟩
end
theorem Still.ext {a : Addr} {u : HO} (x : Ext ρ ρ' H H') (h : Still ρ H a u) : Still ρ' H' a u := h.extR x.r
theorem Rep.ext (x : Ext ρ ρ' H H') (d : D) {v : V} (h : Rep C ρ H d v) : Rep C ρ' H' d v := Rep.extR x.r d h
theorem Reps.ext (x : Ext ρ ρ' H H') (ds : List D) {vs : List V} (h : Reps C ρ H ds vs) : Reps C ρ' H' ds vs := Reps.extR x.r ds h
theorem RepE.extR {env : Env} {σ : St} (x : ExtR ρ ρ' H H') (h : RepE C ρ H env σ) : RepE C ρ' H' env σ := ⟨h.len, fun i d e => by
  obtain ⟨v, h1, h2⟩ := h.at' i d e
  exact ⟨v, h1, Rep.extR x d h2⟩⟩
theorem RepE.ext {env : Env} {σ : St} (x : Ext ρ ρ' H H') (h : RepE C ρ H env σ) : RepE C ρ' H' env σ := ⟨h.len, fun i d e => by
  obtain ⟨v, h1, h2⟩ := h.at' i d e
  exact ⟨v, h1, Rep.ext x d h2⟩⟩
theorem Reps.len : ∀ {ds : List D} {vs : List V}, Reps C ρ H ds vs → ds.length = vs.length
  | [], _, h => by
    have e : _ = [] := h
    rw [e]
    rfl
  | _ :: ds, _, ⟨v, r, e, _, h⟩ => by
    rw [e, List.length_cons, List.length_cons, Reps.len h]
theorem Reps.get : ∀ {ds : List D} {vs : List V} {i : Nat} {d : D}, Reps C ρ H ds vs → ds[i]? = some d → ∃ v, vs[i]? = some v ∧ Rep C ρ H d v
  | [], _, _, _, _, e => by simp at e
  | d :: ds, _, 0, d', ⟨v, r, e, h1, _⟩, q => by
    simp only [List.getElem?_cons_zero, Option.some.injEq] at q
    subst q
    subst e
    exact ⟨v, rfl, h1⟩
  | d :: ds, _, i + 1, d', ⟨v, r, e, _, h2⟩, q => by
    subst e
    exact Reps.get (i := i) h2 (by simpa using q)
theorem Reps.none : ∀ {ds : List D} {vs : List V} {i : Nat}, Reps C ρ H ds vs → ds[i]? = none → vs[i]? = none := fun {ds vs i} h e => by
  have h1 := h.len
  have h2 : ds.length ≤ i := List.getElem?_eq_none_iff.mp e
  exact List.getElem?_eq_none_iff.mpr (by omega)
theorem Reps.append : ∀ {ds es : List D} {vs us : List V}, Reps C ρ H ds vs → Reps C ρ H es us → Reps C ρ H (ds ++ es) (vs ++ us)
  | [], _, vs, us, h, h' => by
    have e : vs = [] := h
    subst e
    exact h'
  | d :: ds, _, _, _, ⟨v, r, e, h1, h2⟩, h' => by
    subst e
    exact ⟨v, _, rfl, h1, Reps.append h2 h'⟩
theorem Reps.nil : Reps C ρ H [] [] := rfl
theorem Reps.one {d : D} {v : V} (h : Rep C ρ H d v) : Reps C ρ H [d] [v] := ⟨v, [], rfl, h, rfl⟩
theorem Reps.take : ∀ {ds : List D} {vs : List V} (n : Nat), Reps C ρ H ds vs → Reps C ρ H (ds.take n) (vs.take n)
  | ds, vs, 0, _ => by simp [Reps]
  | [], vs, n + 1, h => by
    have e : vs = [] := h
    subst e
    exact rfl
  | d :: ds, _, n + 1, ⟨v, r, e, h1, h2⟩ => by
    subst e
    exact ⟨v, r.take n, rfl, h1, Reps.take n h2⟩
theorem Reps.drop : ∀ {ds : List D} {vs : List V} (n : Nat), Reps C ρ H ds vs → Reps C ρ H (ds.drop n) (vs.drop n)
  | ds, vs, 0, h => h
  | [], vs, n + 1, h => by
    have e : vs = [] := h
    subst e
    exact rfl
  | d :: ds, _, n + 1, ⟨v, r, e, _, h2⟩ => by
    subst e
    exact Reps.drop n h2
theorem Reps.set {d : D} {v : V} (hd : Rep C ρ H d v) : ∀ {ds : List D} {vs : List V} (i : Nat), Reps C ρ H ds vs → Reps C ρ H (ds.set i d) (vs.set i v)
  | [], vs, i, h => by
    have e : vs = [] := h
    subst e
    exact rfl
  | d' :: ds, _, 0, ⟨v', r, e, _, h2⟩ => by
    subst e
    exact ⟨v, r, rfl, hd, h2⟩
  | d' :: ds, _, i + 1, ⟨v', r, e, h1, h2⟩ => by
    subst e
    exact ⟨v', r.set i v, rfl, h1, Reps.set hd i h2⟩
theorem Reps.reverse : ∀ {ds : List D} {vs : List V}, Reps C ρ H ds vs → Reps C ρ H ds.reverse vs.reverse
  | [], vs, h => by
    have e : vs = [] := h
    subst e
    exact rfl
  | d :: ds, _, ⟨v, r, e, h1, h2⟩ => by
    subst e
    rw [List.reverse_cons, List.reverse_cons]
    exact Reps.append (Reps.reverse h2) (Reps.one h1)
end

/-! ### what is computed -/
inductive Out (α : Type) where
  | ok (a : α) (w : List D)
  | exn (c : Str) (ns : List Str) (xs : List D) (w : List D)
  | no
/-- ro: the objects of those who called, w: the own ones -/
abbrev M (α : Type) := List D → List D → Out α
def M.pure {α : Type} (a : α) : M α := fun _ w => .ok a w
def M.no {α : Type} : M α := fun _ _ => .no
def M.exn {α : Type} (c : Str) (ns : List Str) (xs : List D) : M α := fun _ w => .exn c ns xs w
def M.bind {α β : Type} (m : M α) (f : α → M β) : M β := fun ro w => match m ro w with
  | .ok a w' => f a ro w'
  | .exn c ns xs w' => .exn c ns xs w'
  | .no => .no
instance : Monad M where
  pure := M.pure
  bind := M.bind
/-- an exception: its class, its own dict -/
def RepX (C : Cfg) (ρ : Zn) (H : Hp) (c : Str) (ns : List Str) (xs : List D) (cls : Value) (dx : Option Addr) : Prop :=
  ∃ A, C.mg c = some (.ref A) ∧ cls = .ref A ∧ ((ns = [] ∧ xs = [] ∧ dx = none) ∨ ∃ d fs, dx = some d ∧ ns ≠ [] ∧ ρ.Out d ∧ H d = some (.xd fs) ∧ ns = fs.map (·.1) ∧ Reps C ρ H xs (fs.map (·.2)))

section
variable {α β : Type}
def AfterR (C : Cfg) (R : Zn → Hp → α → β → Prop) (W : WX) (σ : St) (ρ : Zn) (H : Hp) (ro : List D) (o : Out α) (Q : β → Hp → Prop) : Prop :=
  match o with
  | .ok d w => ∀ v ρ' H', Ext ρ ρ' H H' → RepS C ρ' H' (ro ++ w) → R ρ' H' d v → Q v H'
  | .exn c ns xs w => ∀ cls dx ρ' H', Ext ρ ρ' H H' → RepS C ρ' H' (ro ++ w) → RepX C ρ' H' c ns xs cls dx → W cls dx σ H'
  | .no => False
def tR (C : Cfg) (R : Zn → Hp → α → β → Prop) (W : WX) (f : Env → M α) : St → Hp → (β → Hp → Prop) → Prop := fun σ H Q =>
  ∃ ρ env ro w, RepS C ρ H (ro ++ w) ∧ RepE C ρ H env σ ∧ AfterR C R W σ ρ H ro (f env ro w) Q

variable {C : Cfg} {R : Zn → Hp → α → β → Prop} {W : WX} {σ : St} {ρ ρ' : Zn} {H H' : Hp} {ro w : List D} {Q Q' : β → Hp → Prop}
theorem AfterR.ext {o : Out α} (x : Ext ρ ρ' H H') (h : AfterR C R W σ ρ H ro o Q) : AfterR C R W σ ρ' H' ro o Q := by
  cases o with
  | ok d w => exact fun v ρ2 H2 y hS hR => h v ρ2 H2 (x.trans y) hS hR
  | exn c ns xs w => exact fun cls dx ρ2 H2 y hS hR => h cls dx ρ2 H2 (x.trans y) hS hR
  | no => exact h
/-- one part after another -/
theorem tR_seq {α' β' : Type} {R' : Zn → Hp → α' → β' → Prop} {fa : Env → M α} {env : Env} {g : α → M α'} {Q : β' → Hp → Prop} {K : β → Hp → Prop} (hS : RepS C ρ H (ro ++ w)) (hE : RepE C ρ H env σ)
    (h : AfterR C R' W σ ρ H ro (M.bind (fa env) g ro w) Q)
    (k : ∀ d w1 v ρ1 H1, Ext ρ ρ1 H H1 → RepS C ρ1 H1 (ro ++ w1) → R ρ1 H1 d v → AfterR C R' W σ ρ1 H1 ro (g d ro w1) Q → K v H1) : tR C R W fa σ H K := by
  refine ⟨ρ, env, ro, w, hS, hE, ?_⟩
  unfold M.bind at h
  cases e : fa env ro w with
  | ok d w1 =>
    rw [e] at h
    exact fun v ρ1 H1 x s r => k d w1 v ρ1 H1 x s r (AfterR.ext x h)
  | exn c ns xs w1 =>
    rw [e] at h
    exact h
  | no =>
    rw [e] at h
    exact h
end

abbrev EF := Env → M D
abbrev RB : Zn → Hp → Bool → Bool → Prop := fun _ _ a b => a = b
abbrev tE (C : Cfg) (W : WX) (f : EF) : TE := tR C (Rep C) W f
abbrev tA (C : Cfg) (W : WX) (f : Env → M (List D)) : TA := tR C (Reps C) W f
abbrev tT (C : Cfg) (W : WX) (f : Env → M Bool) : TT := tR C RB W f

theorem pe_imp {X : Cx} {e : Expr} {t t' : TE} (h : PE X e t) (i : ∀ σ H Q, t' σ H Q → t σ H Q) : PE X e t' := ⟨fun pins s σ H Q I q => h.run pins s σ H Q I (i σ H Q q)⟩
theorem pt_imp {X : Cx} {e : Expr} {t t' : TT} (h : PT X e t) (i : ∀ σ H Q, t' σ H Q → t σ H Q) : PT X e t' := ⟨fun pins s σ H Q I q => h.run pins s σ H Q I (i σ H Q q)⟩
theorem pa_imp {X : Cx} {e : List Expr} {t t' : TA} (h : PA X e t) (i : ∀ σ H Q, t' σ H Q → t σ H Q) : PA X e t' := ⟨fun pos pins s σ H Q I q => h.run pos pins s σ H Q I (i σ H Q q)⟩

end Fx
namespace Fx
open PySem PySem.Spec L2

/-! ### the state behind a step -/
section
variable {C : Cfg} {ρ : Zn} {H H' : Hp} {w : List D}
theorem RepO.has {d : D} {a : Addr} (h : RepO C ρ H d a) : ∃ o, H a = some o := by
  cases d with
  | lst ds => obtain ⟨vs, e, _⟩ := h; exact ⟨_, e⟩
  | dic ks ds => obtain ⟨vs, e, _⟩ := h; exact ⟨_, e⟩
  | dct ks ds => obtain ⟨es, ep, as, vs, e, _⟩ := h; exact ⟨_, e⟩
  | ins c ns ds => obtain ⟨A, dx, fs, _, e, _⟩ := h; exact ⟨_, e⟩
  | _ => exact (show False from h).elim
theorem RepS.has (hS : RepS C ρ H w) {a : Addr} (ha : a ∈ ρ.r) : ∃ o, H a = some o := by
  obtain ⟨i, hi, rfl⟩ := List.mem_iff_getElem.mp ha
  have hw : i < w.length := by rw [← hS.len]; exact hi
  exact (hS.obj i _ _ (List.getElem?_eq_getElem hi) (List.getElem?_eq_getElem hw)).has
theorem RepS.fresh (hS : RepS C ρ H w) {p : Addr} (hp : H p = none) : ρ.Out p := by
  refine ⟨fun h => ?_, fun h => ?_⟩
  · obtain ⟨o, e⟩ := hS.has h
    rw [hp] at e
    cases e
  · obtain ⟨o, e⟩ := (hS.hid p h).2
    rw [hp] at e
    cases e
theorem RepO.same {d : D} {a : Addr} {ρ' : Zn} (x : Ext ρ ρ' H H') (e : H' a = H a) (h : RepO C ρ H d a) : RepO C ρ' H' d a := by
  cases d with
  | lst ds => obtain ⟨vs, q, r⟩ := h; exact ⟨vs, e.trans q, Reps.ext x ds r⟩
  | dic ks ds => obtain ⟨vs, q, k, r⟩ := h; exact ⟨vs, e.trans q, k, Reps.ext x ds r⟩
  | dct ks ds => obtain ⟨es, ep, as, vs, q, en, nd, rk, r⟩ := h; exact ⟨es, ep, as, vs, e.trans q, en, nd, Reps.ext x ks rk, Reps.ext x ds r⟩
  | ins c ns ds => obtain ⟨A, dx, fs, m, q, k, r⟩ := h; exact ⟨A, dx, fs, m, e.trans q, k, Reps.ext x ds r⟩
  | _ => exact (show False from h).elim
theorem RepS.same (hS : RepS C ρ H w) (x : Ext ρ ρ H H') (e : ∀ a ∈ ρ.r, H' a = H a) : RepS C ρ H' w :=
  ⟨hS.len, hS.nd, fun i a d h1 h2 => RepO.same x (e a (List.mem_of_getElem? h1)) (hS.obj i a d h1 h2), fun a ha => ⟨(hS.hid a ha).1, by rw [x.same a ha]; exact (hS.hid a ha).2⟩⟩
/-- a new thing that stands still -/
theorem ext_new (hS : RepS C ρ H w) {p : Addr} {o : HO} (hp : H p = none) : Ext ρ ρ H (upd H p o) :=
  ⟨⟨[], by simp⟩, rfl, fun a u e n => ⟨by rw [upd_ne (ne_of_none e hp)]; exact e, n⟩, fun a ha => upd_ne fun e => (hS.fresh hp).2 (e ▸ ha)⟩
theorem reps_new (hS : RepS C ρ H w) {p : Addr} {o : HO} (hp : H p = none) : RepS C ρ (upd H p o) w :=
  hS.same (ext_new hS hp) fun a ha => upd_ne fun e => (hS.fresh hp).1 (e ▸ ha)
/-- a new thing that may change -/
abbrev Zn.more (ρ : Zn) (p : Addr) : Zn := ⟨ρ.r ++ [p], ρ.h⟩
theorem ext_mut (hS : RepS C ρ H w) {p : Addr} {o : HO} (hp : H p = none) : Ext ρ (ρ.more p) H (upd H p o) :=
  ⟨⟨[p], rfl⟩, rfl, fun a u e n => ⟨by rw [upd_ne (ne_of_none e hp)]; exact e, by
    show a ∉ ρ.r ++ [p]
    rw [List.mem_append, not_or]
    exact ⟨n.1, fun z => ne_of_none e hp (List.mem_singleton.mp z)⟩, n.2⟩, fun a ha => upd_ne fun e => (hS.fresh hp).2 (e ▸ ha)⟩
theorem reps_mut (hS : RepS C ρ H w) {p : Addr} {o : HO} {d : D} (hp : H p = none) (h : RepO C (ρ.more p) (upd H p o) d p) : RepS C (ρ.more p) (upd H p o) (w ++ [d]) := by
  refine ⟨by simp [hS.len], ?_, fun i a d' h1 h2 => ?_, fun a ha => ⟨?_, ?_⟩⟩
  · show (ρ.r ++ [p]).Nodup
    rw [List.nodup_append]
    refine ⟨hS.nd, by simp, fun a ha b hb e => ?_⟩
    rw [List.mem_singleton] at hb
    exact (hS.fresh hp).1 (hb ▸ e ▸ ha)
  · replace h1 : (ρ.r ++ [p])[i]? = some a := h1
    by_cases hi : i < ρ.r.length
    · rw [List.getElem?_append_left hi] at h1
      rw [List.getElem?_append_left (by rw [← hS.len]; exact hi)] at h2
      exact RepO.same (ext_mut hS hp) (upd_ne fun e => (hS.fresh hp).1 (e ▸ List.mem_of_getElem? h1)) (hS.obj i a d' h1 h2)
    · have hl := (List.getElem?_eq_some_iff.mp h1).1
      rw [List.length_append, List.length_singleton] at hl
      have e : i = ρ.r.length := by omega
      subst e
      rw [List.getElem?_append_right (Nat.le_refl _), Nat.sub_self] at h1
      rw [List.getElem?_append_right (by rw [hS.len]; exact Nat.le_refl _), hS.len, Nat.sub_self] at h2
      simp only [List.getElem?_cons_zero, Option.some.injEq] at h1 h2
      subst h1
      subst h2
      exact h
  · show a ∉ ρ.r ++ [p]
    rw [List.mem_append, not_or]
    exact ⟨(hS.hid a ha).1, fun z => (hS.fresh hp).2 (List.mem_singleton.mp z ▸ ha)⟩
  · obtain ⟨u, e⟩ := (hS.hid a ha).2
    exact ⟨u, by rw [upd_ne (ne_of_none e hp)]; exact e⟩
/-- the n-th object is written -/
theorem ext_put (hS : RepS C ρ H w) {n : Nat} {a : Addr} {o : HO} (ha : ρ.r[n]? = some a) : Ext ρ ρ H (upd H a o) :=
  ⟨⟨[], by simp⟩, rfl, fun b u e k => ⟨by rw [upd_ne fun z => k.1 (by rw [z]; exact List.mem_of_getElem? ha)]; exact e, k⟩,
    fun b hb => upd_ne fun z => (hS.hid b hb).1 (by rw [z]; exact List.mem_of_getElem? ha)⟩
theorem reps_put (hS : RepS C ρ H w) {n : Nat} {a : Addr} {o : HO} {d : D} (ha : ρ.r[n]? = some a) (h : RepO C ρ (upd H a o) d a) : RepS C ρ (upd H a o) (w.set n d) := by
  refine ⟨by simp [hS.len], hS.nd, fun i b d' h1 h2 => ?_, fun b hb => ⟨(hS.hid b hb).1, by rw [(ext_put (o := o) hS ha).same b hb]; exact (hS.hid b hb).2⟩⟩
  by_cases hi : i = n
  · subst hi
    rw [ha] at h1
    cases h1
    have hl := (List.getElem?_eq_some_iff.mp h2).1
    rw [List.length_set] at hl
    rw [List.getElem?_set_self hl] at h2
    cases h2
    exact h
  · rw [List.getElem?_set_ne (Ne.symm hi)] at h2
    have hb : b ≠ a := by
      intro z
      subst z
      have h1' := List.getElem?_eq_some_iff.mp h1
      have h3' := List.getElem?_eq_some_iff.mp ha
      exact hi ((List.getElem_inj hS.nd).mp (h1'.2.trans h3'.2.symm))
    exact RepO.same (ext_put hS ha) (upd_ne hb) (hS.obj i b d' h1 h2)
end

section
variable {C : Cfg} {α : Type} {W : WX} {σ : St} {ρ : Zn} {H : Hp} {ro w : List D} {Q : VK}
theorem ok_same {d : D} {v : V} (hS : RepS C ρ H (ro ++ w)) (r : Rep C ρ H d v) (h : AfterR C (Rep C) W σ ρ H ro (.ok d w) Q) : Q v H := h v ρ H .refl hS r
theorem ok_int {i : Int} (hS : RepS C ρ H (ro ++ w)) (h : AfterR C (Rep C) W σ ρ H ro (.ok (.int i) w) Q) : Q (.int i) H := ok_same hS (d := .int i) (v := .int i) rfl h
theorem ok_bl {i : Bool} (hS : RepS C ρ H (ro ++ w)) (h : AfterR C (Rep C) W σ ρ H ro (.ok (.bl i) w) Q) : Q (.bl i) H := ok_same hS (d := .bl i) (v := .bl i) rfl h
theorem ok_str {i : Str} (hS : RepS C ρ H (ro ++ w)) (h : AfterR C (Rep C) W σ ρ H ro (.ok (.str i) w) Q) : Q (.str i) H := ok_same hS (d := .str i) (v := .str i) rfl h
theorem ok_non (hS : RepS C ρ H (ro ++ w)) (h : AfterR C (Rep C) W σ ρ H ro (.ok .non w) Q) : Q .non H := ok_same hS (d := .non) (v := .non) rfl h
theorem ok_tup {ds : List D} {vs : List V} (hS : RepS C ρ H (ro ++ w)) (r : Reps C ρ H ds vs) (h : AfterR C (Rep C) W σ ρ H ro (.ok (.tup ds) w) Q) : ∀ p, H p = none → Q (.ref p) (upd H p (.tup vs)) := fun p hp =>
  h _ ρ _ (ext_new hS hp) (reps_new hS hp) ⟨p, vs, rfl, .inl ⟨hS.fresh hp, .inl upd_same⟩, Reps.ext (ext_new hS hp) ds r⟩
theorem ok_lst {ds : List D} {vs : List V} (hS : RepS C ρ H (ro ++ w)) (r : Reps C ρ H ds vs) (h : AfterR C (Rep C) W σ ρ H ro (.ok (.lst ds) w) Q) : ∀ p, H p = none → Q (.ref p) (upd H p (.lst vs)) := fun p hp =>
  h _ ρ _ (ext_new hS hp) (reps_new hS hp) ⟨p, vs, rfl, .inl ⟨hS.fresh hp, .inl upd_same⟩, Reps.ext (ext_new hS hp) ds r⟩
theorem ok_newL {ds : List D} {vs : List V} (hS : RepS C ρ H (ro ++ w)) (r : Reps C ρ H ds vs) (h : AfterR C (Rep C) W σ ρ H ro (.ok (.ref (ro ++ w).length) (w ++ [.lst ds])) Q) : ∀ p, H p = none → Q (.ref p) (upd H p (.lst vs)) := fun p hp =>
  h _ _ _ (ext_mut hS hp) (by rw [← List.append_assoc]; exact reps_mut hS hp ⟨vs, upd_same, Reps.ext (ext_mut hS hp) ds r⟩)
    ⟨p, by show (ρ.r ++ [p])[_]? = _; rw [← hS.len, List.getElem?_append_right (Nat.le_refl _), Nat.sub_self]; rfl, rfl⟩
theorem ok_put {n : Nat} {a : Addr} {o : HO} {d e : D} {v : V} (hS : RepS C ρ H (ro ++ w)) (hn : ¬ n < ro.length) (ha : ρ.r[n]? = some a) (hO : ∀ H', Ext ρ ρ H H' → H' a = some o → RepO C ρ H' d a) (r : Rep C ρ H e v)
    (h : AfterR C (Rep C) W σ ρ H ro (.ok e (w.set (n - ro.length) d)) Q) : Q v (upd H a o) := by
  refine h v ρ _ (ext_put hS ha) ?_ (Rep.ext (ext_put hS ha) e r)
  have z := reps_put (o := o) (d := d) hS ha (hO _ (ext_put hS ha) upd_same)
  rw [List.set_append_right _ _ (by omega)] at z
  exact z
end

/-! ### what is seen of a value: an object that may change, as it stands now -/
def see (ro w : List D) : D → D
  | .ref n => ((ro ++ w)[n]?).getD .non
  | d => d
def M.see (d : D) : M D := fun ro w => .ok (Fx.see ro w d) w
def Seen (C : Cfg) (ρ : Zn) (H : Hp) (d : D) (v : V) : Prop := Rep C ρ H d v ∨ ∃ a, v = .ref a ∧ RepO C ρ H d a
section
variable {C : Cfg} {ρ : Zn} {H : Hp} {ro w : List D}
theorem seen_of {d : D} {v : V} (hS : RepS C ρ H (ro ++ w)) (r : Rep C ρ H d v) : Seen C ρ H (see ro w d) v := by
  cases d with
  | ref n =>
    obtain ⟨a, e, rfl⟩ := r
    have hn := (List.getElem?_eq_some_iff.mp e).1
    have hw : n < (ro ++ w).length := by rw [← hS.len]; exact hn
    have z : see ro w (.ref n) = (ro ++ w)[n] := by
      show ((ro ++ w)[n]?).getD .non = _
      rw [List.getElem?_eq_getElem hw]
      rfl
    rw [z]
    exact .inr ⟨a, rfl, hS.obj n a _ e (List.getElem?_eq_getElem hw)⟩
  | _ => exact .inl r
theorem Still.rd {a : Addr} {u : HO} (h : Still ρ H a u) : Rd H a u := h.2
theorem Seen.lst {ds : List D} {v : V} (h : Seen C ρ H (.lst ds) v) : ∃ a vs, v = .ref a ∧ SqL C.K H a vs ∧ Reps C ρ H ds vs := by
  rcases h with ⟨a, vs, e, h | h, r⟩ | ⟨a, e, vs, h, r⟩
  · exact ⟨a, vs, e, .inl h.2, r⟩
  · exact ⟨a, vs, e, .inr h, r⟩
  · exact ⟨a, vs, e, .inl (.inl h), r⟩
theorem Seen.tup {ds : List D} {v : V} (h : Seen C ρ H (.tup ds) v) : ∃ a vs, v = .ref a ∧ SqT C.K H a vs ∧ Reps C ρ H ds vs := by
  rcases h with ⟨a, vs, e, h | h, r⟩ | ⟨a, e, h⟩
  · exact ⟨a, vs, e, .inl h.2, r⟩
  · exact ⟨a, vs, e, .inr h, r⟩
  · exact (show False from h).elim
theorem Seen.tupR {ds : List D} {v : V} (h : Seen C ρ H (.tup ds) v) : Rep C ρ H (.tup ds) v := by
  rcases h with h | ⟨a, e, h⟩
  · exact h
  · exact (show False from h).elim
theorem Seen.int {i : Int} {v : V} (h : Seen C ρ H (.int i) v) : v = .int i := by
  rcases h with h | ⟨a, e, h⟩
  · exact h
  · exact (show False from h).elim
theorem Seen.str {i : Str} {v : V} (h : Seen C ρ H (.str i) v) : v = .str i := by
  rcases h with h | ⟨a, e, h⟩
  · exact h
  · exact (show False from h).elim
theorem Seen.bl {i : Bool} {v : V} (h : Seen C ρ H (.bl i) v) : v = .bl i := by
  rcases h with h | ⟨a, e, h⟩
  · exact h
  · exact (show False from h).elim
theorem Seen.non {v : V} (h : Seen C ρ H .non v) : v = .non := by
  rcases h with h | ⟨a, e, h⟩
  · exact h
  · exact (show False from h).elim
theorem Seen.dic {ks ds : List D} {v : V} (h : Seen C ρ H (.dic ks ds) v) : ∃ a kvs, v = .ref a ∧ Rd H a (.dK kvs) ∧ ks.map keyOf = kvs.map (fun p => some p.1) ∧ Reps C ρ H ds (kvs.map (·.2)) := by
  rcases h with ⟨a, kvs, e, h, k, r⟩ | ⟨a, e, kvs, h, k, r⟩
  · exact ⟨a, kvs, e, h.2, k, r⟩
  · exact ⟨a, kvs, e, .inl h, k, r⟩
end

/-! ### two values in, one out -/
/-- r is met by what g computes from the things seen -/
def Ok2 (C : Cfg) (r : R2) (g : D → D → M D) : Prop :=
  ∀ (W : WX) (σ : St) (ρ : Zn) (H : Hp) (ro w : List D) (d e : D) (x y : V) (Q : VK), RepS C ρ H (ro ++ w) → Seen C ρ H d x → Seen C ρ H e y → AfterR C (Rep C) W σ ρ H ro (g d e ro w) Q → r x y H Q
def cBin (g : D → D → M D) (fa fb : EF) : EF := fun env => M.bind (fa env) fun d => M.bind (fb env) fun e => M.bind (M.see d) fun d' => M.bind (M.see e) fun e' => g d' e'
theorem tE_bin {C : Cfg} {W : WX} {r : R2} {g : D → D → M D} {fa fb : EF} (h : Ok2 C r g) {σ : St} {H : Hp} {Q : VK} (q : tE C W (cBin g fa fb) σ H Q) : tOp r (tE C W fa) (tE C W fb) σ H Q := by
  obtain ⟨ρ, env, ro, w, hS, hE, q⟩ := q
  refine tR_seq hS hE q fun d w1 v ρ1 H1 x1 s1 r1 q1 => ?_
  refine tR_seq s1 (hE.ext x1) q1 fun e w2 u ρ2 H2 x2 s2 r2 q2 => ?_
  exact h W σ ρ2 H2 ro w2 _ _ v u Q s2 (seen_of s2 (Rep.ext x2 d r1)) (seen_of s2 r2) q2

section
variable {X : Cx} {C : Cfg} {W : WX} {a b : Expr} {fa fb : EF} {pos : Pos}
theorem pf_op {op : Operator} {r : R2} {g : D → D → M D} (ho : OpR X (binaryOp op) r) (hr : Ok2 C r g) (ha : PE X a (tE C W fa)) (hb : PE X b (tE C W fb)) : PE X (.BinOp a op b pos) (tE C W (cBin g fa fb)) :=
  pe_imp (pe_op ho ha hb) fun _ _ _ q => tE_bin hr q
theorem pf_cmp {op : CmpOp} {r : R2} {g : D → D → M D} (ho : OpR X (compareOp op) r) (hr : Ok2 C r g) (ha : PE X a (tE C W fa)) (hb : PE X b (tE C W fb)) (hm : behindInMarks op b = false) : PE X (.Compare a [op] [b] pos) (tE C W (cBin g fa fb)) :=
  pe_imp (pe_cmpR ho ha hb hm) fun _ _ _ q => tE_bin hr q
end

/-! ### a value as a test -/
def M.bool (d : D) : M Bool := match d with
  | .bl b => M.pure b
  | _ => M.no
def cTest (f : EF) : Env → M Bool := fun env => M.bind (f env) M.bool
end Fx
namespace Fx
open PySem PySem.Spec L2

/-! ### data that can be compared -/
mutual
def D.py : D → PyData
  | .bl b => .bool b
  | .int i => .int i
  | .str x => .str x
  | .tup ds => .tuple (D.pys ds)
  | .lst ds => .list (D.pys ds)
  | _ => .none
def D.pys : List D → List PyData
  | [] => []
  | d :: ds => d.py :: D.pys ds
end
mutual
def D.flat : D → Bool
  | .non => true
  | .bl _ => true
  | .int _ => true
  | .str _ => true
  | .tup ds => D.flats ds
  | .lst ds => D.flats ds
  | _ => false
def D.flats : List D → Bool
  | [] => true
  | d :: ds => d.flat && D.flats ds
end
def D.cmp (d : D) : Bool := d.flat && SeqAt.shaped d.py
section
variable {C : Cfg} {ρ : Zn} {H : Hp}
theorem Still.sqL {a : Addr} {vs : List V} (h : Still ρ H a (.lst vs) ∨ KL C.K a vs) : SqL C.K H a vs := h.elim (fun h => .inl h.2) .inr
theorem Still.sqT {a : Addr} {vs : List V} (h : Still ρ H a (.tup vs) ∨ KT C.K a vs) : SqT C.K H a vs := h.elim (fun h => .inl h.2) .inr
mutual
theorem Rep.dp : ∀ (d : D) {v : V}, d.flat = true → Rep C ρ H d v → Dp C.K H v d.py
  | .non, v, _, h => by cases (show v = .non from h); exact .non
  | .bl b, v, _, h => by cases (show v = .bl b from h); exact .bl b
  | .int i, v, _, h => by cases (show v = .int i from h); exact .int i
  | .str x, v, _, h => by cases (show v = .str x from h); exact .str x
  | .tup ds, v, f, ⟨a, vs, e, h, r⟩ => by
    subst e
    exact .tup (Still.sqT h) (Reps.dp ds (by simpa [D.flat] using f) r)
  | .lst ds, v, f, ⟨a, vs, e, h, r⟩ => by
    subst e
    exact .lst (Still.sqL h) (Reps.dp ds (by simpa [D.flat] using f) r)
  | .dic _ _, _, f, _ => by simp [D.flat] at f
  | .dct _ _, _, f, _ => by simp [D.flat] at f
  | .ins _ _ _, _, f, _ => by simp [D.flat] at f
  | .fn _, _, f, _ => by simp [D.flat] at f
  | .rng _, _, f, _ => by simp [D.flat] at f
  | .ref _, _, f, _ => by simp [D.flat] at f
theorem Reps.dp : ∀ (ds : List D) {vs : List V}, D.flats ds = true → Reps C ρ H ds vs → DpAll C.K H vs (D.pys ds)
  | [], vs, _, h => by
    have e : vs = [] := h
    subst e
    exact .nil
  | d :: ds, vs, f, ⟨v, r, e, h1, h2⟩ => by
    subst e
    have f' : d.flat = true ∧ D.flats ds = true := by simpa [D.flats] using f
    exact .cons (Rep.dp d f'.1 h1) (Reps.dp ds f'.2 h2)
end
theorem Seen.dp {d : D} {v : V} (f : d.flat = true) (h : Seen C ρ H d v) : Dp C.K H v d.py := by
  rcases h with h | ⟨a, e, h⟩
  · exact Rep.dp d f h
  · subst e
    cases d with
    | lst ds =>
      obtain ⟨vs, q, r⟩ := h
      exact .lst (.inl (.inl q)) (Reps.dp ds (by simpa [D.flat] using f) r)
    | dic ks ds => simp [D.flat] at f
    | dct ks ds => simp [D.flat] at f
    | ins c ns ds => simp [D.flat] at f
    | _ => exact (show False from h).elim
end

/-! ### the operators -/
def gAdd (x y : D) : M D := match x, y with
  | .int i, .int j => M.pure (.int (i + j))
  | .str a, .str b => fun _ w => if a.length + b.length ≤ sizeLine then .ok (.str (a ++ b)) w else .no
  | .tup a, .tup b => fun _ w => if a.length + b.length ≤ sizeLine then .ok (.tup (a ++ b)) w else .no
  | .lst a, .lst b => fun _ w => if a.length + b.length ≤ sizeLine then .ok (.lst (a ++ b)) w else .no
  | _, _ => M.no
def gSub (x y : D) : M D := match x, y with
  | .int i, .int j => M.pure (.int (i - j))
  | _, _ => M.no
def gMul (x y : D) : M D := match x, y with
  | .int i, .int j => fun _ w => if i.natAbs < 2 ^ 64 ∨ j.natAbs < 2 ^ 64 then .ok (.int (i * j)) w else .no
  | _, _ => M.no
def gDiv (x y : D) : M D := match x, y with
  | .int i, .int j => fun _ w => if 0 < j ∧ j.natAbs < 1073741824 then .ok (.int (i / j)) w else .no
  | _, _ => M.no
def gMod (x y : D) : M D := match x, y with
  | .int i, .int j => fun _ w => if 0 < j then .ok (.int (i % j)) w else .no
  | _, _ => M.no
def gLt (x y : D) : M D := match x, y with
  | .int i, .int j => M.pure (.bl (decide (i < j)))
  | _, _ => M.no
def gLe (x y : D) : M D := match x, y with
  | .int i, .int j => M.pure (.bl (decide (i ≤ j)))
  | _, _ => M.no
def gGt (x y : D) : M D := match x, y with
  | .int i, .int j => M.pure (.bl (decide (j < i)))
  | _, _ => M.no
def gGe (x y : D) : M D := match x, y with
  | .int i, .int j => M.pure (.bl (decide (j ≤ i)))
  | _, _ => M.no
def gEq (x y : D) : M D := fun _ w => if x.cmp && y.cmp then .ok (.bl (PyData.eqv x.py y.py)) w else .no
def gNe (x y : D) : M D := fun _ w => if x.cmp && y.cmp then .ok (.bl (!PyData.eqv x.py y.py)) w else .no
def D.isNon : D → Bool
  | .non => true
  | _ => false
def gIsN (x y : D) : M D := match y with
  | .non => M.pure (.bl x.isNon)
  | _ => M.no
def gNotN (x y : D) : M D := match y with
  | .non => M.pure (.bl (!x.isNon))
  | _ => M.no


abbrev cfg (X : Cx) : Cfg := ⟨X.K, X.mg, X.w⟩
section
variable {X : Cx} {pins : List (Addr × Obj)} {σ : L2.St} {H : Hp} {s : Shared}
/-- lists joined -/
def rCatL (K : PySem.W.Frag) : R2 := fun x y H Q => ∃ l b xs zs, x = .ref l ∧ y = .ref b ∧ SqL K H l xs ∧ SqL K H b zs ∧ xs.length + zs.length ≤ sizeLine ∧ ∀ p, H p = none → Q (.ref p) (upd H p (.lst (xs ++ zs)))
theorem op_catL : OpR X (binaryOp .Add) (rCatL X.K) := by
  intro pins s σ H x y v u Q I rx ry h
  obtain ⟨l, b, xs, zs, rfl, rfl, hH, hB, hz, q⟩ := h
  cases rx
  cases ry
  obtain ⟨its, r, pl, _⟩ := I.list hH
  obtain ⟨its2, r2, pl2, _⟩ := I.list hB
  obtain ⟨⟨cls, dd, data, sl⟩, ho, hc, n, hd⟩ := pl.isList
  obtain ⟨⟨cls2, dd2, data2, sl2⟩, ho2, hc2, n2, hd2⟩ := pl2.isList
  simp only at hc hd hc2 hd2
  subst hc hd hc2 hd2
  have h1 := r.length
  have h2 := r2.length
  have ea : its.toArray ++ its2.toArray = (its ++ its2).toArray := by simp
  refine concat_meets ⟨_, ho, rfl⟩ ⟨_, ho2, rfl⟩ noFill_list_add seq_list_add PySem.F.slot_list_add PySem.F.entry_list_add (PySem.F.args_list_add_2 _ _) (PyProof.Rows.list_addW l b its.toArray its2.toArray n n2 dd dd2 sl sl2 (by rw [List.size_toArray, List.size_toArray]; omega)) ⟨ho, ho2, ?_⟩
  rw [ea]
  exact ⟨.ref _, _, I.lnew (t' := s.toks) (r.append r2) (by rw [List.length_append]; omega), rfl, q _ I.fresh⟩

theorem opf_add : OpR X (binaryOp .Add) (fun x y H Q => (∃ i j, x = .int i ∧ y = .int j ∧ Q (.int (i + j)) H) ∨ (∃ i j, x = .str i ∧ y = .str j ∧ i.length + j.length ≤ sizeLine ∧ Q (.str (i ++ j)) H) ∨ rCatA X.K x y H Q ∨ rCatL X.K x y H Q) :=
  op_add.or (op_add_str.or (op_catA.or op_catL))
end

section
variable {C : Cfg}
theorem ok2_add : Ok2 C (fun x y H Q => (∃ i j, x = .int i ∧ y = .int j ∧ Q (.int (i + j)) H) ∨ (∃ i j, x = .str i ∧ y = .str j ∧ i.length + j.length ≤ sizeLine ∧ Q (.str (i ++ j)) H) ∨ rCatA C.K x y H Q ∨ rCatL C.K x y H Q) gAdd := by
  intro W σ ρ H ro w d e x y Q hS hd he q
  cases d with
  | int i =>
    cases e with
    | int j => exact .inl ⟨i, j, hd.int, he.int, ok_int hS q⟩
    | _ => exact (show False from q).elim
  | str a =>
    cases e with
    | str b =>
      unfold gAdd at q
      by_cases c : a.length + b.length ≤ sizeLine
      · simp only [if_pos c] at q
        exact .inr (.inl ⟨a, b, hd.str, he.str, c, ok_str hS q⟩)
      · simp only [if_neg c] at q
        exact (show False from q).elim
    | _ => exact (show False from q).elim
  | tup a =>
    cases e with
    | tup b =>
      unfold gAdd at q
      by_cases c : a.length + b.length ≤ sizeLine
      · simp only [if_pos c] at q
        obtain ⟨l, vs, rfl, h1, r1⟩ := hd.tup
        obtain ⟨m, us, rfl, h2, r2⟩ := he.tup
        refine .inr (.inr (.inl ⟨l, m, vs, us, rfl, rfl, h1, h2, by rw [← r1.len, ← r2.len]; exact c, fun z => ?_, fun _ z => ?_, fun _ _ => ok_tup hS (r1.append r2) q⟩))
        · have ea : a = [] := by
            cases a with
            | nil => rfl
            | cons _ _ =>
              have := r1.len
              rw [z] at this
              simp at this
          subst ea
          exact ok_same hS he.tupR q
        · have eb : b = [] := by
            cases b with
            | nil => rfl
            | cons _ _ =>
              have := r2.len
              rw [z] at this
              simp at this
          subst eb
          rw [List.append_nil] at q
          exact ok_same hS hd.tupR q
      · simp only [if_neg c] at q
        exact (show False from q).elim
    | _ => exact (show False from q).elim
  | lst a =>
    cases e with
    | lst b =>
      unfold gAdd at q
      by_cases c : a.length + b.length ≤ sizeLine
      · simp only [if_pos c] at q
        obtain ⟨l, vs, rfl, h1, r1⟩ := hd.lst
        obtain ⟨m, us, rfl, h2, r2⟩ := he.lst
        exact .inr (.inr (.inr ⟨l, m, vs, us, rfl, rfl, h1, h2, by rw [← r1.len, ← r2.len]; exact c, ok_lst hS (r1.append r2) q⟩))
      · simp only [if_neg c] at q
        exact (show False from q).elim
    | _ => exact (show False from q).elim
  | _ => exact (show False from q).elim

/-- ints in -/
theorem ok2_I0 {f : Int → Int → V} {g : D → D → M D} {k : Int → Int → D} (hg : ∀ d e, (∃ i j, d = .int i ∧ e = .int j ∧ g d e = M.pure (k i j)) ∨ g d e = M.no) (hk : ∀ i j ρ H, Rep C ρ H (k i j) (f i j)) : Ok2 C (rI0 f) g := by
  intro W σ ρ H ro w d e x y Q hS hd he q
  rcases hg d e with ⟨i, j, rfl, rfl, z⟩ | z
  · rw [z] at q
    exact ⟨i, j, hd.int, he.int, ok_same hS (hk i j ρ H) q⟩
  · rw [z] at q
    exact (show False from q).elim
theorem ok2_I {c : Int → Int → Prop} {f : Int → Int → V} {g : D → D → M D} {k : Int → Int → D} (hg : ∀ d e, (∃ i j, d = .int i ∧ e = .int j ∧ ((c i j ∧ g d e = M.pure (k i j)) ∨ g d e = M.no)) ∨ g d e = M.no) (hk : ∀ i j ρ H, Rep C ρ H (k i j) (f i j)) : Ok2 C (rI c f) g := by
  intro W σ ρ H ro w d e x y Q hS hd he q
  rcases hg d e with ⟨i, j, rfl, rfl, ⟨hc, z⟩ | z⟩ | z
  · rw [z] at q
    exact ⟨i, j, hd.int, he.int, hc, ok_same hS (hk i j ρ H) q⟩
  · rw [z] at q
    exact (show False from q).elim
  · rw [z] at q
    exact (show False from q).elim
theorem ok2_sub : Ok2 C (rI0 fun i j => .int (i - j)) gSub := ok2_I0 (k := fun i j => .int (i - j)) (fun d e => by cases d <;> cases e <;> first | exact .inr rfl | exact .inl ⟨_, _, rfl, rfl, rfl⟩) fun _ _ _ _ => rfl
theorem ok2_lt : Ok2 C (rI0 fun i j => .bl (decide (i < j))) gLt := ok2_I0 (k := fun i j => .bl (decide (i < j))) (fun d e => by cases d <;> cases e <;> first | exact .inr rfl | exact .inl ⟨_, _, rfl, rfl, rfl⟩) fun _ _ _ _ => rfl
theorem ok2_le : Ok2 C (rI0 fun i j => .bl (decide (i ≤ j))) gLe := ok2_I0 (k := fun i j => .bl (decide (i ≤ j))) (fun d e => by cases d <;> cases e <;> first | exact .inr rfl | exact .inl ⟨_, _, rfl, rfl, rfl⟩) fun _ _ _ _ => rfl
theorem ok2_gt : Ok2 C (rI0 fun i j => .bl (decide (j < i))) gGt := ok2_I0 (k := fun i j => .bl (decide (j < i))) (fun d e => by cases d <;> cases e <;> first | exact .inr rfl | exact .inl ⟨_, _, rfl, rfl, rfl⟩) fun _ _ _ _ => rfl
theorem ok2_ge : Ok2 C (rI0 fun i j => .bl (decide (j ≤ i))) gGe := ok2_I0 (k := fun i j => .bl (decide (j ≤ i))) (fun d e => by cases d <;> cases e <;> first | exact .inr rfl | exact .inl ⟨_, _, rfl, rfl, rfl⟩) fun _ _ _ _ => rfl
theorem ok2_mul : Ok2 C (rI CMul fun i j => .int (i * j)) gMul := ok2_I (k := fun i j => .int (i * j)) (fun d e => by
  cases d <;> cases e <;> first
    | exact .inr rfl
    | (rename_i i j
       by_cases c : i.natAbs < 2 ^ 64 ∨ j.natAbs < 2 ^ 64
       · exact .inl ⟨i, j, rfl, rfl, .inl ⟨by unfold CMul; omega, by funext ro w; unfold gMul M.pure; simp only [if_pos c]⟩⟩
       · exact .inl ⟨i, j, rfl, rfl, .inr (by funext ro w; unfold gMul M.no; simp only [if_neg c])⟩)) fun _ _ _ _ => rfl
theorem ok2_div : Ok2 C (rI CDiv fun i j => .int (i / j)) gDiv := ok2_I (k := fun i j => .int (i / j)) (fun d e => by
  cases d <;> cases e <;> first
    | exact .inr rfl
    | (rename_i i j
       by_cases c : 0 < j ∧ j.natAbs < 1073741824
       · exact .inl ⟨i, j, rfl, rfl, .inl ⟨by unfold CDiv; omega, by funext ro w; unfold gDiv M.pure; simp only [if_pos c]⟩⟩
       · exact .inl ⟨i, j, rfl, rfl, .inr (by funext ro w; unfold gDiv M.no; simp only [if_neg c])⟩)) fun _ _ _ _ => rfl
theorem ok2_mod : Ok2 C (rI (fun _ j => 0 < j) fun i j => .int (i % j)) gMod := ok2_I (k := fun i j => .int (i % j)) (fun d e => by
  cases d <;> cases e <;> first
    | exact .inr rfl
    | (rename_i i j
       by_cases c : 0 < j
       · exact .inl ⟨i, j, rfl, rfl, .inl ⟨c, by funext ro w; unfold gMod M.pure; simp only [if_pos c]⟩⟩
       · exact .inl ⟨i, j, rfl, rfl, .inr (by funext ro w; unfold gMod M.no; simp only [if_neg c])⟩)) fun _ _ _ _ => rfl
theorem ok2_eq : Ok2 C (rEqD C.K) gEq := by
  intro W σ ρ H ro w d e x y Q hS hd he q
  unfold gEq at q
  by_cases c : (d.cmp && e.cmp) = true
  · simp only [if_pos c] at q
    obtain ⟨c1, c2⟩ := Bool.and_eq_true_iff.mp c
    obtain ⟨f1, s1⟩ := Bool.and_eq_true_iff.mp c1
    obtain ⟨f2, s2⟩ := Bool.and_eq_true_iff.mp c2
    exact ⟨d.py, e.py, hd.dp f1, he.dp f2, s1, s2, ok_bl hS q⟩
  · simp only [if_neg c] at q
    exact (show False from q).elim
theorem ok2_ne : Ok2 C (rNeD C.K) gNe := by
  intro W σ ρ H ro w d e x y Q hS hd he q
  unfold gNe at q
  by_cases c : (d.cmp && e.cmp) = true
  · simp only [if_pos c] at q
    obtain ⟨c1, c2⟩ := Bool.and_eq_true_iff.mp c
    obtain ⟨f1, s1⟩ := Bool.and_eq_true_iff.mp c1
    obtain ⟨f2, s2⟩ := Bool.and_eq_true_iff.mp c2
    exact ⟨d.py, e.py, hd.dp f1, he.dp f2, s1, s2, ok_bl hS q⟩
  · simp only [if_neg c] at q
    exact (show False from q).elim
theorem Seen.isNon {ρ : Zn} {H : Hp} {d : D} {v : V} (h : Seen C ρ H d v) : decide (v = .non) = d.isNon := by
  have nr : ∀ a, decide (V.ref a = .non) = false := fun a => decide_eq_false fun z => nomatch z
  rcases h with h | ⟨a, rfl, h⟩
  · cases d with
    | non => rw [show v = .non from h]; rfl
    | bl b => rw [show v = .bl b from h]; rfl
    | int b => rw [show v = .int b from h]; rfl
    | str b => rw [show v = .str b from h]; rfl
    | tup ds => obtain ⟨a, vs, rfl, _⟩ := h; exact nr a
    | lst ds => obtain ⟨a, vs, rfl, _⟩ := h; exact nr a
    | dic ks ds => obtain ⟨a, vs, rfl, _⟩ := h; exact nr a
    | dct ks ds => obtain ⟨a, _, _, _, _, rfl, _⟩ := h; exact nr a
    | ins c ns ds => obtain ⟨a, _, _, _, rfl, _⟩ := h; exact nr a
    | fn x => obtain ⟨a, _, rfl⟩ := h; exact nr a
    | rng x => obtain ⟨a, rfl, _⟩ := h; exact nr a
    | ref n => obtain ⟨a, _, rfl⟩ := h; exact nr a
  · rw [nr]
    cases d with
    | non => exact (show False from h).elim
    | _ => rfl
theorem ok2_isN : Ok2 C (fun x y H Q => y = .non ∧ Q (.bl (decide (x = .non))) H) gIsN := by
  intro W σ ρ H ro w d e x y Q hS hd he q
  cases e with
  | non =>
    refine ⟨he.non, ?_⟩
    rw [hd.isNon]
    exact ok_bl hS q
  | _ => exact (show False from q).elim
end
end Fx
namespace Fx
open PySem PySem.Spec L2

section
variable {X : Cx} {C : Cfg} {W : WX} {pos p : Pos} {a b c e : Expr} {es : List Expr} {fa fb fc f : EF} {fs : Env → M (List D)}

/-! ### names, constants -/
def cVar (i : Nat) : EF := fun env _ w => match env[i]? with
  | some (some d) => .ok d w
  | _ => .no
theorem pf_var (i : Nat) {x : Str} (hN : X.N[i]? = some x := by rfl) (hv : Vis X.env.scope x := by first | exact Or.inl rfl | exact Or.inr (Or.inl rfl) | exact Or.inr (Or.inr rfl)) (hd : (x == ("__debug__" : Str)) = false := by decide)
    (hcd : (x == ("__classdict__" : Str)) = false := by decide) : PE X (.Name x pos) (tE C W (cVar i)) := pe_imp (pe_var hN hv hd hcd) fun σ H Q q => by
  obtain ⟨ρ, env, ro, w, hS, hE, q⟩ := q
  unfold cVar at q
  cases e : env[i]? with
  | none =>
    rw [e] at q
    exact (show False from q).elim
  | some o =>
    cases o with
    | none =>
      rw [e] at q
      exact (show False from q).elim
    | some d =>
      rw [e] at q
      obtain ⟨v, h1, h2⟩ := hE.at' i d e
      exact ⟨v, h1, ok_same hS h2 q⟩
def cK (d : D) : EF := fun _ => M.pure d
theorem pf_int {i j} : PE X (.Constant (.int i) j pos) (tE C W (cK (.int i))) := pe_imp pe_int fun σ H Q ⟨ρ, env, ro, w, hS, hE, q⟩ => ok_int hS q
theorem pf_bl {i j} : PE X (.Constant (.bool i) j pos) (tE C W (cK (.bl i))) := pe_imp pe_bl fun σ H Q ⟨ρ, env, ro, w, hS, hE, q⟩ => ok_bl hS q
theorem pf_str {i j} : PE X (.Constant (.str i) j pos) (tE C W (cK (.str i))) := pe_imp pe_str fun σ H Q ⟨ρ, env, ro, w, hS, hE, q⟩ => ok_str hS q
theorem pf_non {j} : PE X (.Constant .none j pos) (tE C W (cK .non)) := pe_imp pe_non fun σ H Q ⟨ρ, env, ro, w, hS, hE, q⟩ => ok_non hS q
/-- a constant of the module -/
def GK (C : Cfg) (x : Str) (d : D) : Prop := ∃ v u, C.mg x = some u ∧ RelV v u ∧ ∀ ρ H, Rep C ρ H d v
theorem pf_glob {x : Str} {d : D} (hg : Gl X x) (k : GK (cfg X) x d) (hd : (x == ("__debug__" : Str)) = false := by decide) : PE X (.Name x pos) (tE (cfg X) W (cK d)) := by
  obtain ⟨v, u, hm, r, h⟩ := k
  exact pe_imp (pe_glob hg hm r hd) fun σ H Q ⟨ρ, env, ro, w, hS, hE, q⟩ => ok_same hS (h ρ H) q

/-! ### arguments -/
def cArgs : List EF → Env → M (List D)
  | [] => fun _ => M.pure []
  | f :: r => fun env => M.bind (f env) fun d => M.bind (cArgs r env) fun ds => M.pure (d :: ds)
theorem cArgs_len : ∀ (fs : List EF) {env : Env} {ro w w' : List D} {ds : List D}, cArgs fs env ro w = .ok ds w' → ds.length = fs.length
  | [], env, ro, w, w', ds, h => by
    cases (show (Out.ok [] w : Out (List D)) = .ok ds w' from h)
    rfl
  | f :: r, env, ro, w, w', ds, h => by
    unfold cArgs M.bind at h
    cases e : f env ro w with
    | ok d w1 =>
      rw [e] at h
      cases e2 : cArgs r env ro w1 with
      | ok ds2 w2 =>
        simp only [e2] at h
        cases (show (Out.ok (d :: ds2) w2 : Out (List D)) = .ok ds w' from h)
        rw [List.length_cons, List.length_cons, cArgs_len r e2]
      | exn c ns xs w2 =>
        simp only [e2] at h
        cases h
      | no =>
        simp only [e2] at h
        cases h
    | exn c ns xs w2 =>
      rw [e] at h
      cases h
    | no =>
      rw [e] at h
      cases h
theorem pfa_nil : PA X [] (tA C W (cArgs [])) := pa_imp pa_nil fun σ H Q ⟨ρ, env, ro, w, hS, hE, q⟩ => q [] ρ H .refl hS rfl
theorem pfa_cons {gs : List EF} (ha : PE X e (tE C W f)) (hr : PA X es (tA C W (cArgs gs))) (hs : starEach (e :: es) X.env = (false, eval e X.env) :: starEach es X.env := by rfl) : PA X (e :: es) (tA C W (cArgs (f :: gs))) :=
  pa_imp (pa_cons ha hr hs) fun σ H Q ⟨ρ, env, ro, w, hS, hE, q⟩ => by
    refine tR_seq (g := fun d => M.bind (cArgs gs env) fun ds => M.pure (d :: ds)) hS hE q fun d w1 v ρ1 H1 x1 s1 r1 q1 => ?_
    refine tR_seq s1 (hE.ext x1) q1 fun ds w2 vs ρ2 H2 x2 s2 r2 q2 => ?_
    exact q2 (v :: vs) ρ2 H2 .refl s2 ⟨v, vs, rfl, Rep.ext x2 d r1, r2⟩

/-! ### built-ins by name -/
def OkL (C : Cfg) (r : List V → Hp → VK → Prop) (g : List D → M D) : Prop :=
  ∀ (W : WX) (σ : L2.St) (ρ : Zn) (H : Hp) (ro w : List D) (ds : List D) (xs : List V) (Q : VK), RepS C ρ H (ro ++ w) → Reps C ρ H ds xs → AfterR C (Rep C) W σ ρ H ro (g ds ro w) Q → r xs H Q
def Ok1 (C : Cfg) (r : List V → Hp → VK → Prop) (g : D → M D) : Prop :=
  ∀ (W : WX) (σ : L2.St) (ρ : Zn) (H : Hp) (ro w : List D) (d : D) (x : V) (Q : VK), RepS C ρ H (ro ++ w) → Seen C ρ H d x → AfterR C (Rep C) W σ ρ H ro (g d ro w) Q → r [x] H Q
def one (g : D → M D) : List D → M D
  | [d] => M.bind (M.see d) g
  | _ => M.no
theorem okL_one {r : List V → Hp → VK → Prop} {g : D → M D} (h : Ok1 C r g) : OkL C r (one g) := by
  intro W σ ρ H ro w ds xs Q hS hR q
  cases ds with
  | nil => exact (show False from q).elim
  | cons d ds =>
    cases ds with
    | cons _ _ => exact (show False from q).elim
    | nil =>
      obtain ⟨v, r', rfl, h1, h2⟩ := hR
      cases (show r' = [] from h2)
      exact h W σ ρ H ro w _ v Q hS (seen_of hS h1) q
def cCall (g : List D → M D) (fs : Env → M (List D)) : EF := fun env => M.bind (fs env) g
theorem tE_call {r : List V → Hp → VK → Prop} {g : List D → M D} (hr : OkL C r g) {σ : L2.St} {H : Hp} {Q : VK} (q : tE C W (cCall g fs) σ H Q) : tCB r (tA C W fs) σ H Q := by
  obtain ⟨ρ, env, ro, w, hS, hE, q⟩ := q
  exact tR_seq hS hE q fun ds w1 vs ρ1 H1 x1 s1 r1 q1 => hr W σ ρ1 H1 ro w1 ds vs Q s1 r1 q1
theorem pf_callB {id : String} {x : Str} {r : List V → Hp → VK → Prop} {g : List D → M D} (hc : CallR X (.builtin id) r) (hr : OkL C r g) (hg : Gl X x) (hm : X.mg x = none) (hv : bootBuiltins x = some (.builtin id)) (ha : PA X (e :: es) (tA C W fs))
    (hn : x ≠ "__name__" := by decide) (hdb : (x == ("__debug__" : Str)) = false := by decide) (he : starEach (e :: es) X.env = (false, eval e X.env) :: starEach es X.env := by rfl) (hpl : (backTo pos (starEach es X.env)).any (·.1) = false := by rfl) :
    PE X (.Call (.Name x p) (e :: es) [] pos) (tE C W (cCall g fs)) := pe_imp (pe_callB hc hg hm hv ha hn hdb he hpl) fun _ _ _ q => tE_call hr q
theorem pf_callTy {T : String} {x : Str} {r : List V → Hp → VK → Prop} {g : List D → M D} (hc : CallR X (.type T) r) (hr : OkL C r g) (hg : Gl X x) (hm : X.mg x = none) (hv : bootBuiltins x = some (.type T)) (ha : PA X (e :: es) (tA C W fs))
    (hn : x ≠ "__name__" := by decide) (hdb : (x == ("__debug__" : Str)) = false := by decide) (he : starEach (e :: es) X.env = (false, eval e X.env) :: starEach es X.env := by rfl) (hpl : (backTo pos (starEach es X.env)).any (·.1) = false := by rfl) :
    PE X (.Call (.Name x p) (e :: es) [] pos) (tE C W (cCall g fs)) := pe_imp (pe_callTy hc hg hm hv ha hn hdb he hpl) fun _ _ _ q => tE_call hr q

def rLen (K : PySem.W.Frag) : List V → Hp → VK → Prop := fun xs H Q => (∃ p ys, xs = [.ref p] ∧ (SqL K H p ys ∨ SqT K H p ys) ∧ Q (.int ys.length) H) ∨ (∃ z, xs = [.str z] ∧ z.length ≤ sizeLine ∧ Q (.int z.length) H) ∨ (∃ a kvs, xs = [V.ref a] ∧ H a = some (.dK kvs) ∧ Q (.int kvs.length) H)
theorem cf_len : CallR X (.builtin "len") (rLen X.K) := call_len_seq.or (call_len_str.or call_lenD)
def gLen : D → M D
  | .str x => fun _ w => if x.length ≤ sizeLine then .ok (.int x.length) w else .no
  | .tup ds => M.pure (.int ds.length)
  | .lst ds => M.pure (.int ds.length)
  | _ => M.no
theorem ok_len : Ok1 C (rLen C.K) gLen := by
  intro W σ ρ H ro w d x Q hS hd q
  cases d with
  | str z =>
    unfold gLen at q
    by_cases c : z.length ≤ sizeLine
    · simp only [if_pos c] at q
      exact .inr (.inl ⟨z, by rw [hd.str], c, ok_int hS q⟩)
    · simp only [if_neg c] at q
      exact (show False from q).elim
  | tup ds =>
    obtain ⟨a, vs, rfl, h, r⟩ := hd.tup
    refine .inl ⟨a, vs, rfl, .inr h, ?_⟩
    rw [← r.len]
    exact ok_int hS q
  | lst ds =>
    obtain ⟨a, vs, rfl, h, r⟩ := hd.lst
    refine .inl ⟨a, vs, rfl, .inl h, ?_⟩
    rw [← r.len]
    exact ok_int hS q
  | _ => exact (show False from q).elim
def rInt1 : List V → Hp → VK → Prop := fun xs H Q => (∃ i, xs = [.int i] ∧ Q (.int i) H) ∨ ∃ k, xs = [.bl k] ∧ Q (.int (if k then 1 else 0)) H
theorem cf_int : CallR X (.type "int") rInt1 := call_int1
def gInt : D → M D
  | .int i => M.pure (.int i)
  | .bl k => M.pure (.int (if k then 1 else 0))
  | _ => M.no
theorem ok_int1 : Ok1 C rInt1 gInt := by
  intro W σ ρ H ro w d x Q hS hd q
  cases d with
  | int i => exact .inl ⟨i, by rw [hd.int], ok_int hS q⟩
  | bl k => exact .inr ⟨k, by rw [hd.bl], ok_int hS q⟩
  | _ => exact (show False from q).elim
def rList (K : PySem.W.Frag) : List V → Hp → VK → Prop := fun xs H Q => ∃ p ys, xs = [.ref p] ∧ (SqL K H p ys ∨ SqT K H p ys) ∧ ∀ l, H l = none → Q (.ref l) (upd H l (.lst ys))
theorem cf_list : CallR X (.type "list") (rList X.K) := call_list_of
def gList : D → M D
  | .tup ds => M.pure (.lst ds)
  | .lst ds => M.pure (.lst ds)
  | _ => M.no
/-- a list that may change -/
def mNew (o : D) : M D := fun ro w => .ok (.ref (ro ++ w).length) (w ++ [o])
def gListM : D → M D
  | .tup ds => mNew (.lst ds)
  | .lst ds => mNew (.lst ds)
  | _ => M.no
theorem ok_list : Ok1 C (rList C.K) gList := by
  intro W σ ρ H ro w d x Q hS hd q
  cases d with
  | tup ds =>
    obtain ⟨a, vs, rfl, h, r⟩ := hd.tup
    exact ⟨a, vs, rfl, .inr h, ok_lst hS r q⟩
  | lst ds =>
    obtain ⟨a, vs, rfl, h, r⟩ := hd.lst
    exact ⟨a, vs, rfl, .inl h, ok_lst hS r q⟩
  | _ => exact (show False from q).elim
def gTuple : D → M D
  | .tup ds => M.pure (.tup ds)
  | .lst ds => M.pure (.tup ds)
  | _ => M.no
/-! ### isinstance -/
inductive Ty where
  | non | bl | int | str | tup | lst | dic
  deriving DecidableEq
def Ty.name : Ty → String
  | .non => "NoneType" | .bl => "bool" | .int => "int" | .str => "str" | .tup => "tuple" | .lst => "list" | .dic => "dict"
def isTy : Ty → Ty → Bool
  | .bl, .int => true
  | a, b => decide (a = b)
theorem isTy_ok : ∀ a b : Ty, kitB a.name b.name = some (isTy a b) := by
  intro a b
  cases a <;> cases b <;> decide +kernel
def D.ty? : D → Option Ty
  | .non => some .non | .bl _ => some .bl | .int _ => some .int | .str _ => some .str | .tup _ => some .tup | .lst _ => some .lst | .dic _ _ => some .dic
  | _ => none
theorem Seen.tyx {ρ : Zn} {H : Hp} {d : D} {v : V} {t : Ty} (h : Seen C ρ H d v) (e : d.ty? = some t) : TyX C.K H v (.type t.name) := by
  cases d with
  | non => cases e; rw [h.non]; exact .base .non
  | bl b => cases e; rw [h.bl]; exact .base (.bl b)
  | int b => cases e; rw [h.int]; exact .base (.int b)
  | str b => cases e; rw [h.str]; exact .base (.str b)
  | tup ds =>
    cases e
    rcases h with ⟨a, vs, rfl, h | h, _⟩ | ⟨a, _, h⟩
    · rcases h.2 with h | ⟨o, h⟩
      · exact .base (.tup h)
      · exact .fTuple h
    · obtain ⟨o, its, n, hk, hc, _⟩ := h
      exact .kTuple hk hc
    · exact (show False from h).elim
  | lst ds =>
    cases e
    obtain ⟨a, vs, rfl, h, _⟩ := h.lst
    rcases h with (h | ⟨o, h⟩) | ⟨o, its, n, hk, hc, _⟩
    · exact .base (.lst h)
    · exact .base (.frz h)
    · exact .kList hk hc
  | dic ks ds =>
    cases e
    obtain ⟨a, vs, rfl, h, _⟩ := h.dic
    rcases h with h | ⟨o, h⟩
    · exact .base (.dK h)
    · exact .fDict h
  | _ => cases e
def gIsi (t : Ty) (d : D) : M D := match d.ty? with
  | some a => M.pure (.bl (isTy a t))
  | none => M.no
def cIsi (t : Ty) (f : EF) : EF := fun env => M.bind (f env) fun d => M.bind (M.see d) (gIsi t)
theorem pf_isi (t : Ty) {x : Str} {q : Pos} (hg : Gl X "isinstance") (hm : X.mg "isinstance" = none) (hgT : Gl X x) (hmT : X.mg x = none) (hvT : bootBuiltins x = some (.type t.name)) (ha : PE X a (tE (cfg X) W fa))
    (hnT : x ≠ "__name__" := by decide) (hdT : (x == ("__debug__" : Str)) = false := by decide) (hs1 : starEach [a, .Name x q] X.env = (false, eval a X.env) :: starEach [.Name x q] X.env := by rfl) (hpl : (backTo pos (starEach [.Name x q] X.env)).any (·.1) = false := by rfl) :
    PE X (.Call (.Name "isinstance" p) [a, .Name x q] [] pos) (tE (cfg X) W (cIsi t fa)) := by
  refine pe_imp (pe_callB call_isi hg hm PyProof.Rows.boot_isinstance (pa_cons ha (pa_cons (pe_bltn (v := .ty t.name) hgT hmT hvT rfl hnT hdT) pa_nil) hs1) (by decide) (by decide) hs1 hpl) fun σ H Q ⟨ρ, env, ro, w, hS, hE, q⟩ => ?_
  refine tR_seq hS hE q fun d w1 v ρ1 H1 x1 s1 r1 q1 => ?_
  replace q1 : AfterR (cfg X) (Rep (cfg X)) W σ ρ1 H1 ro (gIsi t (see ro w1 d) ro w1) Q := q1
  unfold gIsi at q1
  cases ht : (see ro w1 d).ty? with
  | none =>
    rw [ht] at q1
    exact (show False from q1).elim
  | some u =>
    rw [ht] at q1
    exact ⟨v, .ty t.name, .type u.name, .type t.name, isTy u t, rfl, .ty _, (seen_of s1 r1).tyx ht, kit_ty (isTy_ok u t), ok_bl s1 q1⟩

/-! ### subscripts, slices -/
def gIx (x y : D) : M D := match x, y with
  | .tup ds, .int i => fun _ w => match atI ds i with
    | some d => .ok d w
    | none => .no
  | .lst ds, .int i => fun _ w => match atI ds i with
    | some d => .ok d w
    | none => .no
  | .str z, .int i => fun _ w => if z.length ≤ sizeLine then (match atI z.cps.toList i with
    | some c => .ok (.str ⟨#[c]⟩) w
    | none => .no) else .no
  | _, _ => M.no
theorem Reps.atI {ρ : Zn} {H : Hp} {ds : List D} {vs : List V} {i : Int} {d : D} (r : Reps C ρ H ds vs) (h : L2.atI ds i = some d) : ∃ v, L2.atI vs i = some v ∧ Rep C ρ H d v := by
  unfold L2.atI at h ⊢
  rw [r.len] at h
  cases e : ixN vs.length i with
  | none =>
    rw [e] at h
    cases h
  | some j =>
    rw [e] at h
    exact r.get h
theorem ok2_ix : Ok2 C (rIx C.K) gIx := by
  intro W σ ρ H ro w d e x y Q hS hd he q
  cases d with
  | tup ds =>
    cases e with
    | int i =>
      unfold gIx at q
      cases ht : L2.atI ds i with
      | none =>
        simp only [ht] at q
        exact (show False from q).elim
      | some d' =>
        simp only [ht] at q
        obtain ⟨a, vs, rfl, h, r⟩ := hd.tup
        obtain ⟨v, h1, h2⟩ := r.atI ht
        exact .inr (.inl ⟨a, vs, i, v, rfl, he.int, h, h1, ok_same hS h2 q⟩)
    | _ => exact (show False from q).elim
  | lst ds =>
    cases e with
    | int i =>
      unfold gIx at q
      cases ht : L2.atI ds i with
      | none =>
        simp only [ht] at q
        exact (show False from q).elim
      | some d' =>
        simp only [ht] at q
        obtain ⟨a, vs, rfl, h, r⟩ := hd.lst
        obtain ⟨v, h1, h2⟩ := r.atI ht
        exact .inl ⟨a, vs, i, v, rfl, he.int, h, h1, ok_same hS h2 q⟩
    | _ => exact (show False from q).elim
  | str z =>
    cases e with
    | int i =>
      unfold gIx at q
      by_cases c : z.length ≤ sizeLine
      · simp only [if_pos c] at q
        cases ht : L2.atI z.cps.toList i with
        | none =>
          simp only [ht] at q
          exact (show False from q).elim
        | some d' =>
          simp only [ht] at q
          exact .inr (.inr ⟨z, i, d', hd.str, he.int, c, ht, ok_str hS q⟩)
      · simp only [if_neg c] at q
        exact (show False from q).elim
    | _ => exact (show False from q).elim
  | _ => exact (show False from q).elim
theorem pf_ix (ha : PE X a (tE (cfg X) W fa)) (hb : PE X b (tE (cfg X) W fb)) (hs : PlainIx b) : PE X (.Subscript a b pos) (tE (cfg X) W (cBin gIx fa fb)) := pe_imp (pe_ix ix_seq ha hb hs) fun _ _ _ q => tE_bin ok2_ix q

abbrev RO : Zn → Hp → Option Int → Option Int → Prop := fun _ _ a b => a = b
abbrev tO (C : Cfg) (W : WX) (f : Env → M (Option Int)) : L2.St → Hp → (Option Int → Hp → Prop) → Prop := tR C RO W f
def cNoPart : Env → M (Option Int) := fun _ => M.pure none
def cPart (f : EF) : Env → M (Option Int) := fun env => M.bind (f env) fun d => match d with
  | .int i => M.pure (some i)
  | _ => M.no
theorem pfo_none : PO X none (tO C W cNoPart) := ⟨fun pins s σ H Q I q => po_none.run pins s σ H Q I (by
  obtain ⟨ρ, env, ro, w, hS, hE, q⟩ := q
  exact q none ρ H .refl hS rfl)⟩
theorem pfo_some (h : PE X e (tE C W f)) : PO X (some e) (tO C W (cPart f)) := ⟨fun pins s σ H Q I q => (po_some h).run pins s σ H Q I (by
  obtain ⟨ρ, env, ro, w, hS, hE, q⟩ := q
  refine tR_seq hS hE q fun d w1 v ρ1 H1 x1 s1 r1 q1 => ?_
  cases d with
  | int i => exact ⟨i, r1, q1 (some i) ρ1 H1 .refl s1 rfl⟩
  | _ => exact (show False from q1).elim)⟩
def cut {α : Type} (xs : List α) (lo hi : Option Int) : List α := (xs.drop (HT.sIx xs.length 0 lo)).take (HT.sIx xs.length xs.length hi - HT.sIx xs.length 0 lo)
def gSl (x : D) (lo hi : Option Int) : M D := match x with
  | .lst ds => M.pure (.lst (cut ds lo hi))
  | .tup ds => M.pure (.tup (cut ds lo hi))
  | .str z => fun _ w => if z.length ≤ sizeLine then .ok (.str (cutS z lo hi)) w else .no
  | _ => M.no
def rSl (K : PySem.W.Frag) : V → Option Int → Option Int → Hp → VK → Prop := fun x lo hi H Q => rSlL K x lo hi H Q ∨ rSlA K x lo hi H Q ∨ rSlS x lo hi H Q
theorem sf_sl : SlR X (rSl X.K) := sl_list.or (sl_tupA.or sl_str)
def cSl (f : EF) (lo hi : Env → M (Option Int)) : EF := fun env => M.bind (f env) fun d => M.bind (lo env) fun i => M.bind (hi env) fun j => M.bind (M.see d) fun d' => gSl d' i j
theorem Reps.cut {ρ : Zn} {H : Hp} {ds : List D} {vs : List V} {lo hi : Option Int} (r : Reps C ρ H ds vs) : Reps C ρ H (cut ds lo hi) (cutV vs lo hi) := by
  unfold Fx.cut cutV
  rw [r.len]
  exact (r.drop _).take _
theorem cut_whole {α : Type} {xs : List α} {lo hi : Option Int} (h : HT.sIx xs.length 0 lo = 0 ∧ HT.sIx xs.length xs.length hi = xs.length) : cut xs lo hi = xs := by
  unfold cut
  rw [h.1, h.2, Nat.sub_zero, List.drop_zero]
  exact List.take_length
theorem pf_sl {lo hi : Option Expr} {p2 : Pos} {fl fh : Env → M (Option Int)} (ha : PE X a (tE (cfg X) W fa)) (hl : PO X lo (tO (cfg X) W fl)) (hh : PO X hi (tO (cfg X) W fh)) : PE X (.Subscript a (.Slice lo hi none p2) pos) (tE (cfg X) W (cSl fa fl fh)) := by
  refine pe_imp (pe_slice sf_sl ha hl hh) fun σ H Q ⟨ρ, env, ro, w, hS, hE, q⟩ => ?_
  refine tR_seq hS hE q fun d w1 v ρ1 H1 x1 s1 r1 q1 => ?_
  refine tR_seq s1 (hE.ext x1) q1 fun i w2 i' ρ2 H2 x2 s2 ei q2 => ?_
  refine tR_seq s2 ((hE.ext x1).ext x2) q2 fun j w3 j' ρ3 H3 x3 s3 ej q3 => ?_
  cases ei
  cases ej
  have sd := seen_of s3 (Rep.ext x3 d (Rep.ext x2 d r1))
  replace q3 : AfterR (cfg X) (Rep (cfg X)) W σ ρ3 H3 ro (gSl (see ro w3 d) i j ro w3) Q := q3
  generalize see ro w3 d = d3 at sd q3
  cases d3 with
  | lst ds =>
    obtain ⟨a, vs, rfl, h, r⟩ := sd.lst
    exact .inl ⟨a, vs, rfl, h, ok_lst s3 r.cut q3⟩
  | tup ds =>
    obtain ⟨a, vs, rfl, h, r⟩ := sd.tup
    refine .inr (.inl ⟨a, vs, rfl, h, fun z => ?_, fun z => ok_tup s3 r.cut q3⟩)
    have z' : HT.sIx ds.length 0 i = 0 ∧ HT.sIx ds.length ds.length j = ds.length := by
      rw [r.len]
      exact z
    unfold gSl at q3
    simp only [cut_whole z'] at q3
    exact ok_same s3 sd.tupR q3
  | str z =>
    unfold gSl at q3
    by_cases c : z.length ≤ sizeLine
    · simp only [if_pos c] at q3
      exact .inr (.inr ⟨z, sd.str, c, ok_str s3 q3⟩)
    · simp only [if_neg c] at q3
      exact (show False from q3).elim
  | _ => exact (show False from q3).elim

/-! ### displays -/
def cTup (fs : Env → M (List D)) : EF := fun env => M.bind (fs env) fun ds => M.pure (.tup ds)
def cLst (fs : Env → M (List D)) : EF := fun env => M.bind (fs env) fun ds => M.pure (.lst ds)
def cLstM (fs : Env → M (List D)) : EF := fun env => M.bind (fs env) fun ds => mNew (.lst ds)
theorem tE_disp {g : List D → M D} {gs : List EF} {σ : L2.St} {H : Hp} {Q : VK} {K : List V → Hp → Prop} (q : tE C W (fun env => M.bind (cArgs gs env) g) σ H Q)
    (k : ∀ ds w1 vs ρ1 H1 ro, ds.length = gs.length → RepS C ρ1 H1 (ro ++ w1) → Reps C ρ1 H1 ds vs → AfterR C (Rep C) W σ ρ1 H1 ro (g ds ro w1) Q → K vs H1) : tA C W (cArgs gs) σ H K := by
  obtain ⟨ρ, env, ro, w, hS, hE, q⟩ := q
  replace q : AfterR C (Rep C) W σ ρ H ro (M.bind (cArgs gs env) g ro w) Q := q
  unfold M.bind at q
  refine ⟨ρ, env, ro, w, hS, hE, ?_⟩
  cases e : cArgs gs env ro w with
  | ok d w1 =>
    rw [e] at q
    exact fun v ρ1 H1 x s r => k d w1 v ρ1 H1 ro (cArgs_len gs e) s r (AfterR.ext x q)
  | exn c ns xs w1 =>
    rw [e] at q
    exact q
  | no =>
    rw [e] at q
    exact q
theorem pf_tup {k} {gs : List EF} (h : PA X es (tA C W (cArgs gs))) (hl : gs.length ≤ 1000 := by exact Nat.le_of_ble_eq_true rfl) : PE X (.Tuple es k pos) (tE C W (cTup (cArgs gs))) := pe_imp (pe_tup h) fun σ H Q q =>
  tE_disp q fun ds w1 vs ρ1 H1 ro e s r q1 => ⟨by rw [← r.len, e]; exact Nat.le_of_lt (small1000 hl), ok_tup s r q1⟩
theorem pf_lst {gs : List EF} (h : PA X es (tA C W (cArgs gs))) (hl : gs.length ≤ 1000 := by exact Nat.le_of_ble_eq_true rfl) : PE X (.List es pos) (tE C W (cLst (cArgs gs))) := pe_imp (pe_lst h) fun σ H Q q =>
  tE_disp q fun ds w1 vs ρ1 H1 ro e s r q1 => ⟨by rw [← r.len, e]; exact Nat.le_of_lt (small1000 hl), ok_lst s r q1⟩
theorem pf_lstM {gs : List EF} (h : PA X es (tA C W (cArgs gs))) (hl : gs.length ≤ 1000 := by exact Nat.le_of_ble_eq_true rfl) : PE X (.List es pos) (tE C W (cLstM (cArgs gs))) := pe_imp (pe_lst h) fun σ H Q q =>
  tE_disp q fun ds w1 vs ρ1 H1 ro e s r q1 => ⟨by rw [← r.len, e]; exact Nat.le_of_lt (small1000 hl), ok_newL s r q1⟩

/-! ### and, or, not, if -/
def cAnd (fa fb : EF) : EF := fun env => M.bind (fa env) fun d => match d with
  | .bl true => fb env
  | .bl false => M.pure (.bl false)
  | _ => M.no
def cOr (fa fb : EF) : EF := fun env => M.bind (fa env) fun d => match d with
  | .bl true => M.pure (.bl true)
  | .bl false => fb env
  | _ => M.no
def cNot (fa : EF) : EF := fun env => M.bind (fa env) fun d => match d with
  | .bl b => M.pure (.bl (!b))
  | _ => M.no
variable {rest : List Expr}
theorem pf_one {op} (h : PE X a (tE C W fa)) : PE X (.BoolOp op [a] pos) (tE C W fa) := pe_one h
theorem pf_and (ha : PE X a (tE C W fa)) (hb : PE X (.BoolOp .And (b :: rest) pos) (tE C W fb)) : PE X (.BoolOp .And (a :: b :: rest) pos) (tE C W (cAnd fa fb)) := pe_imp (pe_and ha hb) fun σ H Q ⟨ρ, env, ro, w, hS, hE, q⟩ => by
  refine tR_seq hS hE q fun d w1 v ρ1 H1 x1 s1 r1 q1 => ?_
  cases d with
  | bl k =>
    refine ⟨k, r1, ?_⟩
    cases k with
    | true => exact ⟨ρ1, env, ro, w1, s1, hE.ext x1, q1⟩
    | false => exact ok_bl s1 q1
  | _ => exact (show False from q1).elim
theorem pf_not (ha : PE X a (tE C W fa)) : PE X (.UnaryOp .Not a pos) (tE C W (cNot fa)) := pe_imp (pe_not ha) fun σ H Q ⟨ρ, env, ro, w, hS, hE, q⟩ => by
  refine tR_seq hS hE q fun d w1 v ρ1 H1 x1 s1 r1 q1 => ?_
  cases d with
  | bl k => exact ⟨k, r1, ok_bl s1 q1⟩
  | _ => exact (show False from q1).elim
def gNeg : D → M D
  | .int i => M.pure (.int (-i))
  | _ => M.no
def cUn (g : D → M D) (f : EF) : EF := fun env => M.bind (f env) g
theorem pf_neg (ha : PE X a (tE C W fa)) : PE X (.UnaryOp .USub a pos) (tE C W (cUn gNeg fa)) := pe_imp (pe_un un_neg ha) fun σ H Q ⟨ρ, env, ro, w, hS, hE, q⟩ => by
  refine tR_seq hS hE q fun d w1 v ρ1 H1 x1 s1 r1 q1 => ?_
  cases d with
  | int i => exact ⟨i, r1, ok_int s1 q1⟩
  | _ => exact (show False from q1).elim

/-! tests -/
def cNotT (f : Env → M Bool) : Env → M Bool := fun env => M.bind (f env) fun b => M.pure (!b)
def cAndT (f g : Env → M Bool) : Env → M Bool := fun env => M.bind (f env) fun b => if b = true then g env else M.pure false
def cOrT (f g : Env → M Bool) : Env → M Bool := fun env => M.bind (f env) fun b => if b = true then M.pure true else g env
variable {ta tb : Env → M Bool}
theorem pt_cmpF {op : CmpOp} {r : R2} {g : D → D → M D} (ho : OpR X (compareOp op) r) (hr : Ok2 C r g) (ha : PE X a (tE C W fa)) (hb : PE X b (tE C W fb)) (hm : behindInMarks op b = false) : PT X (.Compare a [op] [b] pos) (tT C W (cTest (cBin g fa fb))) :=
  pt_imp (pt_cmpR ho ha hb hm) fun σ H Q ⟨ρ, env, ro, w, hS, hE, q⟩ => by
    refine tE_bin hr ⟨ρ, env, ro, w, hS, hE, ?_⟩
    unfold cTest M.bind at q
    cases e : cBin g fa fb env ro w with
    | ok d w1 =>
      rw [e] at q
      intro v ρ1 H1 x1 s1 r1
      cases d with
      | bl k => exact ⟨k, r1, q k ρ1 H1 x1 s1 rfl⟩
      | _ => exact (show False from q).elim
    | exn c ns xs w1 =>
      rw [e] at q
      exact q
    | no =>
      rw [e] at q
      exact q
/-- any other test: a truth value -/
def M.truth : D → M Bool
  | .bl b => M.pure b
  | .non => M.pure false
  | .int i => M.pure (i != 0)
  | .lst ds => M.pure (!ds.isEmpty)
  | .tup ds => M.pure (!ds.isEmpty)
  | .str x => fun _ w => if x.length ≤ sizeLine then .ok ((x.length : Int) != 0) w else .no
  | _ => M.no
def cTru (f : EF) : Env → M Bool := fun env => M.bind (f env) fun d => M.bind (M.see d) M.truth
theorem Reps.isEmpty {ρ : Zn} {H : Hp} {ds : List D} {vs : List V} (r : Reps C ρ H ds vs) : (!ds.isEmpty) = !vs.isEmpty := by
  have := r.len
  cases ds <;> cases vs <;> first | rfl | simp at this
theorem pt_tru (ha : PE X a (tE (cfg X) W fa)) (he : ∀ whole, isTrue a X.env whole = (do let v ← whole; standAt a.pos; holding [v] (truthy v)) := by intro _; rfl) : PT X a (tT (cfg X) W (cTru fa)) :=
  pt_imp (pt_truth ha he) fun σ H Q ⟨ρ, env, ro, w, hS, hE, q⟩ => by
    refine tR_seq hS hE q fun d w1 v ρ1 H1 x1 s1 r1 q1 => ?_
    replace q1 : AfterR (cfg X) RB W σ ρ1 H1 ro (M.truth (see ro w1 d) ro w1) Q := q1
    have sd := seen_of s1 r1
    generalize see ro w1 d = d3 at sd q1
    cases d3 with
    | bl k => rw [sd.bl]; exact ⟨k, rfl, q1 k ρ1 H1 .refl s1 rfl⟩
    | non => rw [sd.non]; exact ⟨false, rfl, q1 _ ρ1 H1 .refl s1 rfl⟩
    | int i => rw [sd.int]; exact ⟨_, rfl, q1 _ ρ1 H1 .refl s1 rfl⟩
    | str z =>
      unfold M.truth at q1
      by_cases c : z.length ≤ sizeLine
      · simp only [if_pos c] at q1
        rw [sd.str]
        exact ⟨_, ⟨c, rfl⟩, q1 _ ρ1 H1 .refl s1 rfl⟩
      · simp only [if_neg c] at q1
        exact (show False from q1).elim
    | lst ds =>
      obtain ⟨p, vs, rfl, h, r⟩ := sd.lst
      exact ⟨_, .inl ⟨vs, h, rfl⟩, q1 _ ρ1 H1 .refl s1 r.isEmpty⟩
    | tup ds =>
      obtain ⟨p, vs, rfl, h, r⟩ := sd.tup
      exact ⟨_, .inr (.inl ⟨vs, h, rfl⟩), q1 _ ρ1 H1 .refl s1 r.isEmpty⟩
    | _ => exact (show False from q1).elim
theorem pw_and1F (ha : PT X a (tT C W ta)) : PW X (.BoolOp .And [a] pos) (tT C W ta) := pw_and1 ha
theorem pw_or1F (ha : PT X a (tT C W ta)) : PW X (.BoolOp .Or [a] pos) (tT C W ta) := pw_or1 ha
theorem pw_imp {t t' : TT} (h : PW X e t) (i : ∀ σ H Q, t' σ H Q → t σ H Q) : PW X e t' := ⟨fun wh pins s σ H Q I q => h.run wh pins s σ H Q I (i σ H Q q)⟩
theorem pw_andF (ha : PT X a (tT C W ta)) (hb : PW X (.BoolOp .And (b :: rest) pos) (tT C W tb)) : PW X (.BoolOp .And (a :: b :: rest) pos) (tT C W (cAndT ta tb)) := pw_imp (pw_and ha hb) fun σ H Q ⟨ρ, env, ro, w, hS, hE, q⟩ => by
  refine tR_seq hS hE q fun d w1 v ρ1 H1 x1 s1 r1 q1 => ?_
  cases (show d = v from r1)
  cases d with
  | true => exact ⟨ρ1, env, ro, w1, s1, hE.ext x1, q1⟩
  | false => exact q1 false ρ1 H1 .refl s1 rfl
theorem pw_orF (ha : PT X a (tT C W ta)) (hb : PW X (.BoolOp .Or (b :: rest) pos) (tT C W tb)) : PW X (.BoolOp .Or (a :: b :: rest) pos) (tT C W (cOrT ta tb)) := pw_imp (pw_or ha hb) fun σ H Q ⟨ρ, env, ro, w, hS, hE, q⟩ => by
  refine tR_seq hS hE q fun d w1 v ρ1 H1 x1 s1 r1 q1 => ?_
  cases (show d = v from r1)
  cases d with
  | true => exact q1 true ρ1 H1 .refl s1 rfl
  | false => exact ⟨ρ1, env, ro, w1, s1, hE.ext x1, q1⟩
theorem pt_notF (ha : PT X a (tT C W ta)) : PT X (.UnaryOp .Not a pos) (tT C W (cNotT ta)) := pt_imp (pt_not ha) fun σ H Q ⟨ρ, env, ro, w, hS, hE, q⟩ => by
  refine tR_seq hS hE q fun d w1 v ρ1 H1 x1 s1 r1 q1 => ?_
  cases (show d = v from r1)
  exact q1 (!d) ρ1 H1 .refl s1 rfl
def cIf (t : Env → M Bool) (fa fb : EF) : EF := fun env => M.bind (t env) fun b => if b = true then fa env else fb env
theorem pf_if (hc : PT X c (tT C W ta)) (ha : PE X a (tE C W fa)) (hb : PE X b (tE C W fb)) : PE X (.IfExp c a b pos) (tE C W (cIf ta fa fb)) := pe_imp (pe_ifExp hc ha hb) fun σ H Q ⟨ρ, env, ro, w, hS, hE, q⟩ => by
  refine tR_seq hS hE q fun d w1 v ρ1 H1 x1 s1 r1 q1 => ?_
  cases (show d = v from r1)
  cases d with
  | true => exact ⟨ρ1, env, ro, w1, s1, hE.ext x1, q1⟩
  | false => exact ⟨ρ1, env, ro, w1, s1, hE.ext x1, q1⟩
end
end Fx
namespace Fx
open PySem PySem.Spec L2

/-! ### statements -/
inductive Fl where
  | nx | rt (d : D) | bk | ct
inductive OS where
  | go (fl : Fl) (env : Env) (w : List D)
  | exn (c : Str) (ns : List Str) (xs : List D) (env : Env) (w : List D)
  | no
abbrev SF := Env → List D → List D → OS
def AfterS (C : Cfg) (W : WX) (ρ : Zn) (H : Hp) (ro : List D) (o : OS) (D : Ends) : Prop :=
  match o with
  | .go .nx env w => ∀ σ' ρ' H', Ext ρ ρ' H H' → RepS C ρ' H' (ro ++ w) → RepE C ρ' H' env σ' → D.nx σ' H'
  | .go (.rt d) env w => ∀ v ρ' H', Ext ρ ρ' H H' → RepS C ρ' H' (ro ++ w) → Rep C ρ' H' d v → D.rt v H'
  | .go .bk env w => ∀ σ' ρ' H', Ext ρ ρ' H H' → RepS C ρ' H' (ro ++ w) → RepE C ρ' H' env σ' → D.bk σ' H'
  | .go .ct env w => ∀ σ' ρ' H', Ext ρ ρ' H H' → RepS C ρ' H' (ro ++ w) → RepE C ρ' H' env σ' → D.ct σ' H'
  | .exn c ns xs env w => ∀ cls dx σ' ρ' H', Ext ρ ρ' H H' → RepS C ρ' H' (ro ++ w) → RepE C ρ' H' env σ' → RepX C ρ' H' c ns xs cls dx → W cls dx σ' H'
  | .no => False
def tS (C : Cfg) (W : WX) (f : SF) : TS := fun D σ H => ∃ ρ env ro w, RepS C ρ H (ro ++ w) ∧ RepE C ρ H env σ ∧ AfterS C W ρ H ro (f env ro w) D

section
variable {C : Cfg} {W : WX} {ρ ρ' : Zn} {H H' : Hp} {ro w : List D} {σ : L2.St} {env : Env}
theorem AfterS.ext {o : OS} {D : Ends} (x : Ext ρ ρ' H H') (h : AfterS C W ρ H ro o D) : AfterS C W ρ' H' ro o D := by
  cases o with
  | go fl env w =>
    cases fl with
    | nx => exact fun σ2 ρ2 H2 y hS hE => h σ2 ρ2 H2 (x.trans y) hS hE
    | rt d => exact fun v ρ2 H2 y hS hR => h v ρ2 H2 (x.trans y) hS hR
    | bk => exact fun σ2 ρ2 H2 y hS hE => h σ2 ρ2 H2 (x.trans y) hS hE
    | ct => exact fun σ2 ρ2 H2 y hS hE => h σ2 ρ2 H2 (x.trans y) hS hE
  | exn c ns xs env w => exact fun cls dx σ2 ρ2 H2 y hS hE hX => h cls dx σ2 ρ2 H2 (x.trans y) hS hE hX
  | no => exact h
theorem RepE.set {i : Nat} {d : D} {v : V} (h : RepE C ρ H env σ) (r : Rep C ρ H d v) : RepE C ρ H (env.set i (some d)) (σ.set i (some v)) := by
  refine ⟨by simp [h.len], fun j e q => ?_⟩
  by_cases hj : i = j
  · subst hj
    have hl := (List.getElem?_eq_some_iff.mp q).1
    rw [List.length_set] at hl
    rw [List.getElem?_set_self hl] at q
    cases q
    exact ⟨v, by rw [List.getElem?_set_self (by rw [← h.len]; exact hl)], r⟩
  · rw [List.getElem?_set_ne hj] at q
    obtain ⟨u, h1, h2⟩ := h.at' j e q
    exact ⟨u, by rw [List.getElem?_set_ne hj]; exact h1, h2⟩
def sLift {α : Type} (f : Env → M α) (k : α → SF) : SF := fun env ro w => match f env ro w with
  | .ok a w' => k a env ro w'
  | .exn c ns xs w' => .exn c ns xs env w'
  | .no => .no
theorem lift_after {α β : Type} {R : Zn → Hp → α → β → Prop} {f : Env → M α} {k : α → SF} {D : Ends} {K : β → Hp → Prop} (hE : RepE C ρ H env σ) (h : AfterS C W ρ H ro (sLift f k env ro w) D)
    (kk : ∀ d w1 v ρ1 H1, Ext ρ ρ1 H H1 → RepS C ρ1 H1 (ro ++ w1) → RepE C ρ1 H1 env σ → R ρ1 H1 d v → AfterS C W ρ1 H1 ro (k d env ro w1) D → K v H1) : AfterR C R W σ ρ H ro (f env ro w) K := by
  unfold sLift at h
  cases e : f env ro w with
  | ok d w1 =>
    rw [e] at h
    exact fun v ρ1 H1 x s r => kk d w1 v ρ1 H1 x s (hE.ext x) r (AfterS.ext x h)
  | exn c ns xs w1 =>
    rw [e] at h
    exact fun cls dx ρ1 H1 x s r => h cls dx σ ρ1 H1 x s (hE.ext x) r
  | no =>
    rw [e] at h
    exact h
theorem tS_seq {α β : Type} {R : Zn → Hp → α → β → Prop} {f : Env → M α} {k : α → SF} {D : Ends} {K : β → Hp → Prop} (hS : RepS C ρ H (ro ++ w)) (hE : RepE C ρ H env σ) (h : AfterS C W ρ H ro (sLift f k env ro w) D)
    (kk : ∀ d w1 v ρ1 H1, Ext ρ ρ1 H H1 → RepS C ρ1 H1 (ro ++ w1) → RepE C ρ1 H1 env σ → R ρ1 H1 d v → AfterS C W ρ1 H1 ro (k d env ro w1) D → K v H1) : tR C R W f σ H K := ⟨ρ, env, ro, w, hS, hE, lift_after hE h kk⟩
end

theorem ps_imp {X : Cx} {st : Stmt} {t t' : TS} (h : PS X st t) (i : ∀ D σ H, t' D σ H → t D σ H) : PS X st t' := ⟨fun pins s σ H D I q => h.run pins s σ H D I (i D σ H q)⟩
theorem pss_imp {X : Cx} {st : List Stmt} {t t' : TS} (h : PSs X st t) (i : ∀ D σ H, t' D σ H → t D σ H) : PSs X st t' := ⟨fun pins s σ H D I q => h.run pins s σ H D I (i D σ H q)⟩

section
variable {X : Cx} {C : Cfg} {W : WX} {pos p : Pos} {a b c e o : Expr} {es : List Expr} {st : Stmt} {sts : List Stmt} {fa fb fc f : EF} {s t : SF} {ta : Env → M Bool}
def sNil : SF := fun env _ w => .go .nx env w
def sSeq (s t : SF) : SF := fun env ro w => match s env ro w with
  | .go .nx env' w' => t env' ro w'
  | o => o
theorem fs_nil : PSs X [] (tS C W sNil) := pss_imp pss_nil fun D σ H ⟨ρ, env, ro, w, hS, hE, q⟩ => q σ ρ H .refl hS hE
theorem fs_cons (h1 : PS X st (tS C W s)) (h2 : PSs X sts (tS C W t)) : PSs X (st :: sts) (tS C W (sSeq s t)) := pss_imp (pss_cons h1 h2) fun D σ H ⟨ρ, env, ro, w, hS, hE, q⟩ => by
  refine ⟨ρ, env, ro, w, hS, hE, ?_⟩
  unfold sSeq at q
  cases e : s env ro w with
  | go fl env1 w1 =>
    rw [e] at q
    cases fl with
    | nx => exact fun σ1 ρ1 H1 x1 s1 e1 => ⟨ρ1, env1, ro, w1, s1, e1, AfterS.ext x1 q⟩
    | rt d => exact q
    | bk => exact q
    | ct => exact q
  | exn c ns xs env1 w1 =>
    rw [e] at q
    exact q
  | no =>
    rw [e] at q
    exact q
theorem fs_one (h1 : PS X st (tS C W s)) : PSs X [st] (tS C W s) := pss_one h1
def sPass : SF := sNil
def sBrk : SF := fun env _ w => .go .bk env w
def sCnt : SF := fun env _ w => .go .ct env w
theorem f_cnt : PS X (.Continue pos) (tS C W sCnt) := ps_imp ps_continue fun D σ H ⟨ρ, env, ro, w, hS, hE, q⟩ => q σ ρ H .refl hS hE
def sSet (i : Nat) (f : EF) : SF := sLift f fun d env _ w => .go .nx (env.set i (some d)) w
theorem f_set (i : Nat) {x : Str} {pos' : Pos} (hN : X.N.Nodup) (he : PE X e (tE C W f)) (hi : X.N[i]? = some x := by rfl) (hx : Loc X.env.scope x := by first | exact Or.inl rfl | exact Or.inr rfl) (hs : swapsWith e (some (.Name x pos')) pos.line X.env = pure false := by rfl) (hf : X.fn x = true ∨ X.env.scope.names.lookup x = some .local := by first | exact .inl rfl | exact .inr rfl) :
    PS X (.Assign [.Name x pos'] e pos) (tS C W (sSet i f)) := ps_imp (ps_set hN hi hx he hs hf) fun D σ H ⟨ρ, env, ro, w, hS, hE, q⟩ =>
  tS_seq hS hE q fun d w1 v ρ1 H1 x1 s1 e1 r1 q1 => q1 _ ρ1 H1 .refl s1 (e1.set r1)
def sRet (f : EF) : SF := sLift f fun d env _ w => .go (.rt d) env w
theorem f_ret (he : PE X e (tE C W f)) : PS X (.Return (some e) pos) (tS C W (sRet f)) := ps_imp (ps_ret he) fun D σ H ⟨ρ, env, ro, w, hS, hE, q⟩ =>
  tS_seq hS hE q fun d w1 v ρ1 H1 x1 s1 e1 r1 q1 => q1 v ρ1 H1 .refl s1 r1
def sRetN : SF := fun env _ w => .go (.rt .non) env w
def sExpr (f : EF) : SF := sLift f fun _ env _ w => .go .nx env w
theorem f_expr (he : PE X e (tE C W f)) (hs : swapsWith e none pos.line X.env = pure false := by rfl) : PS X (.Expr e pos) (tS C W (sExpr f)) := ps_imp (ps_expr he hs) fun D σ H ⟨ρ, env, ro, w, hS, hE, q⟩ =>
  tS_seq hS hE q fun d w1 v ρ1 H1 x1 s1 e1 r1 q1 => q1 σ ρ1 H1 .refl s1 e1
def sIf (ta : Env → M Bool) (s t : SF) : SF := sLift ta fun b => if b = true then s else t
theorem f_if {as bs : List Stmt} (hc : PT X c (tT C W ta)) (ha : PSs X as (tS C W s)) (hb : PSs X bs (tS C W t)) : PS X (.If c as bs pos) (tS C W (sIf ta s t)) := ps_imp (ps_if hc ha hb) fun D σ H ⟨ρ, env, ro, w, hS, hE, q⟩ => by
  refine tS_seq hS hE q fun d w1 v ρ1 H1 x1 s1 e1 r1 q1 => ?_
  cases (show d = v from r1)
  cases d with
  | true => exact ⟨ρ1, env, ro, w1, s1, e1, q1⟩
  | false => exact ⟨ρ1, env, ro, w1, s1, e1, q1⟩
/-- x op= e -/
def sAug (i : Nat) (g : D → D → M D) (f : EF) : SF := sLift (cVar i) fun x => sLift f fun y => sLift (fun _ => M.bind (M.see x) fun x' => M.bind (M.see y) fun y' => g x' y') fun z env _ w => .go .nx (env.set i (some z)) w
theorem f_aug (i : Nat) {x : Str} {pos' : Pos} {op : Operator} {r : R2} {g : D → D → M D} (hN : X.N.Nodup) (ho : OpR X (inplaceOp op) r) (hr : Ok2 C r g) (he : PE X e (tE C W f)) (hi : X.N[i]? = some x := by rfl) (hx : Loc X.env.scope x := by first | exact Or.inl rfl | exact Or.inr rfl) (hf : X.fn x = true ∨ X.env.scope.names.lookup x = some .local := by first | exact .inl rfl | exact .inr rfl) :
    PS X (.AugAssign (.Name x pos') op e pos) (tS C W (sAug i g f)) := ps_imp (ps_aug (ti := r) hN hi hx he ho hf) fun D σ H ⟨ρ, env, ro, w, hS, hE, q⟩ => by
  unfold sAug at q
  have hv : ∃ d, env[i]? = some (some d) := by
    unfold sLift cVar at q
    cases e : env[i]? with
    | none =>
      rw [e] at q
      exact (show False from q).elim
    | some o =>
      cases o with
      | none =>
        rw [e] at q
        exact (show False from q).elim
      | some d => exact ⟨d, rfl⟩
  obtain ⟨d, hd⟩ := hv
  obtain ⟨v, h1, h2⟩ := hE.at' i d hd
  have q' : AfterS C W ρ H ro (sLift f (fun y => sLift (fun _ => M.bind (M.see d) fun x' => M.bind (M.see y) fun y' => g x' y') fun z env _ w => .go .nx (env.set i (some z)) w) env ro w) D := by
    unfold sLift cVar at q
    rw [hd] at q
    exact q
  refine ⟨v, h1, ?_⟩
  refine tS_seq hS hE q' fun y w1 u ρ1 H1 x1 s1 e1 r1 q1 => ?_
  replace q1 : AfterS C W ρ1 H1 ro (sLift (fun _ => g (see ro w1 d) (see ro w1 y)) (fun z env _ w => .go .nx (env.set i (some z)) w) env ro w1) D := q1
  have q2 : AfterR C (Rep C) W σ ρ1 H1 ro (g (see ro w1 d) (see ro w1 y) ro w1) (fun z H2 => D.nx (σ.set i (some z)) H2) :=
    lift_after e1 q1 fun z w2 v2 ρ2 H2 x2 s2 e2 r2 q2 => q2 _ ρ2 H2 .refl s2 (e2.set r2)
  exact hr W σ ρ1 H1 ro w1 _ _ v u _ s1 (seen_of s1 (Rep.ext x1 d h2)) (seen_of s1 r1) q2

/-! ### a list that changes -/
def mMod (f : List D → Option (D × List D)) : D → M D
  | .ref n => fun ro w => if n < ro.length then .no else match w[n - ro.length]? with
    | some (.lst ds) => (match f ds with
      | some (d, ds') => .ok d (w.set (n - ro.length) (.lst ds'))
      | none => .no)
    | _ => .no
  | _ => M.no
/-- what it asks -/
theorem mMod_ok {f : List D → Option (D × List D)} {d : D} {x : V} {ρ : Zn} {H : Hp} {ro w : List D} {σ : L2.St} {Q : VK} (hS : RepS C ρ H (ro ++ w)) (hd : Rep C ρ H d x) (q : AfterR C (Rep C) W σ ρ H ro (mMod f d ro w) Q) :
    ∃ a vs ds r ds', x = .ref a ∧ H a = some (.lst vs) ∧ Reps C ρ H ds vs ∧ f ds = some (r, ds') ∧
      ∀ v vs', Rep C ρ H r v → Reps C ρ H ds' vs' → Q v (upd H a (.lst vs')) := by
  cases d with
  | ref n =>
    unfold mMod at q
    by_cases c : n < ro.length
    · simp only [if_pos c] at q
      exact (show False from q).elim
    · simp only [if_neg c] at q
      obtain ⟨a, ha, rfl⟩ := hd
      cases e : w[n - ro.length]? with
      | none =>
        rw [e] at q
        exact (show False from q).elim
      | some o =>
        rw [e] at q
        cases o with
        | lst ds =>
          have hn : (ro ++ w)[n]? = some (.lst ds) := by
            rw [List.getElem?_append_right (by omega)]
            exact e
          obtain ⟨vs, hv, r⟩ := hS.obj n a _ ha hn
          cases ef : f ds with
          | none =>
            simp only [ef] at q
            exact (show False from q).elim
          | some z =>
            obtain ⟨r', ds'⟩ := z
            simp only [ef] at q
            refine ⟨a, vs, ds, r', ds', rfl, hv, r, ef, fun v vs' hr hvs => ?_⟩
            exact ok_put (o := .lst vs') (d := .lst ds') hS c ha (fun H' x' e' => ⟨vs', e', Reps.ext x' ds' hvs⟩) hr q
        | _ => exact (show False from q).elim
  | _ => exact (show False from q).elim
/-- o.m(..) of a list: o is looked at ahead of the arguments -/
def cMl (g : List D → D → M D) (fo : EF) (fs : Env → M (List D)) : EF := fun env => M.bind (fo env) fun o => M.bind (M.see o) fun o' => match o' with
  | .lst _ => M.bind (fs env) fun ds => g ds o
  | _ => M.no
def OkM (C : Cfg) (r : V → List V → Hp → VK → Prop) (g : List D → D → M D) : Prop :=
  ∀ (W : WX) (σ : L2.St) (ρ : Zn) (H : Hp) (ro w : List D) (d : D) (x : V) (ds : List D) (xs : List V) (Q : VK), RepS C ρ H (ro ++ w) → Rep C ρ H d x → Reps C ρ H ds xs → AfterR C (Rep C) W σ ρ H ro (g ds d ro w) Q → r x xs H Q
theorem tE_ml {r : V → List V → Hp → VK → Prop} {g : List D → D → M D} {fo : EF} {fs : Env → M (List D)} (hr : OkM (cfg X) r g) {σ : L2.St} {H : Hp} {Q : VK} (q : tE (cfg X) W (cMl g fo fs) σ H Q) :
    tBM X.K "list" r (tE (cfg X) W fo) (tA (cfg X) W fs) σ H Q := by
  obtain ⟨ρ, env, ro, w, hS, hE, q⟩ := q
  refine tR_seq hS hE q fun d w1 v ρ1 H1 x1 s1 r1 q1 => ?_
  replace q1 : AfterR (cfg X) (Rep (cfg X)) W σ ρ1 H1 ro ((match see ro w1 d with
    | .lst _ => M.bind (fs env) fun ds => g ds d
    | _ => M.no) ro w1) Q := q1
  have sd := seen_of s1 r1
  generalize see ro w1 d = d3 at sd q1
  cases d3 with
  | lst ds =>
    obtain ⟨a, vs, rfl, h, r⟩ := sd.lst
    refine ⟨.inl ⟨rfl, vs, h⟩, ?_⟩
    refine tR_seq s1 (hE.ext x1) q1 fun es w2 us ρ2 H2 x2 s2 r2 q2 => ?_
    exact hr W σ ρ2 H2 ro w2 d _ es us Q s2 (Rep.ext x2 d r1) r2 q2
  | _ => exact (show False from q1).elim
def gAppend (ds : List D) : D → M D := mMod fun es => match ds with
  | [d] => if es.length < sizeLine then some (.non, es ++ [d]) else none
  | _ => none
theorem okm_append : OkM C rAppend gAppend := by
  intro W σ ρ H ro w d x ds xs Q hS hd hds q
  obtain ⟨a, vs, es, r, es', rfl, hv, hr, hf, k⟩ := mMod_ok hS hd q
  cases ds with
  | nil => cases hf
  | cons d' ds =>
    cases ds with
    | cons _ _ => cases hf
    | nil =>
      obtain ⟨v, r', rfl, h1, h2⟩ := hds
      cases (show r' = [] from h2)
      replace hf : (if es.length < sizeLine then some (D.non, es ++ [d']) else none) = some (r, es') := hf
      by_cases c : es.length < sizeLine
      · rw [if_pos c] at hf
        cases hf
        exact ⟨a, vs, v, rfl, rfl, hv, by rw [← hr.len]; exact c, k .non _ rfl (hr.append (Reps.one h1))⟩
      · rw [if_neg c] at hf
        cases hf
def gPop : List D → D → M D
  | [] => mMod fun es => match es[es.length - 1]? with
    | some d => some (d, es.dropLast)
    | none => none
  | _ => fun _ => M.no
theorem Reps.dropLast {ρ : Zn} {H : Hp} {ds : List D} {vs : List V} (r : Reps C ρ H ds vs) : Reps C ρ H ds.dropLast vs.dropLast := by
  rw [List.dropLast_eq_take, List.dropLast_eq_take, r.len]
  exact r.take _
theorem okm_pop : OkM C rPop gPop := by
  intro W σ ρ H ro w d x ds xs Q hS hd hds q
  cases ds with
  | cons _ _ => exact (show False from q).elim
  | nil =>
    cases (show xs = [] from hds)
    obtain ⟨a, vs, es, r, es', rfl, hv, hr, hf, k⟩ := mMod_ok hS hd q
    cases e2 : es[es.length - 1]? with
    | none =>
      rw [e2] at hf
      cases hf
    | some y =>
      rw [e2] at hf
      cases hf
      obtain ⟨v, g1, g2⟩ := hr.get e2
      rw [hr.len] at g1
      exact ⟨a, vs, v, rfl, rfl, hv, g1, k v _ g2 hr.dropLast⟩
theorem pf_append {fs : Env → M (List D)} {fo : EF} {apos : Pos} (ho : PE X o (tE (cfg X) W fo)) (ha : PA X (e :: es) (tA (cfg X) W fs)) (hbase : attributeBase o "append" X.env (eval o X.env) = eval o X.env := by rfl)
    (hfew : ((backTo pos (starEach (e :: es) X.env)).all (fun x => !x.1) && (backToKw pos (keywordEach [] X.env)).all (fun x => x.1.isSome)
      && decide ((e :: es).length + ([] : List Keyword).length + (if ([] : List Keyword).isEmpty then 0 else 1) < 30)) = true := by rfl)
    (hline : (apos.endLine == pos.line) = true := by rfl) (hs : starEach (e :: es) X.env = (false, eval e X.env) :: starEach es X.env := by rfl) (hplain : (backTo pos (starEach es X.env)).any (·.1) = false := by rfl) :
    PE X (.Call (.Attribute o "append" apos) (e :: es) [] pos) (tE (cfg X) W (cMl gAppend fo fs)) :=
  pe_imp (pe_bm PySem.F.plainAttrs_list PySem.F.slot_list_append PySem.F.type_list_append mt_append ho ha hbase hfew hline hs hplain) fun _ _ _ q => tE_ml okm_append q
/-- x[i] = v -/
def gPut (v o i : D) : M D := match i with
  | .int k => mMod (fun es => match ixN es.length k with
    | some j => some (.non, es.set j v)
    | none => none) o
  | _ => M.no
def sPut (fo fi fv : EF) : SF := sLift fv fun v => sLift fo fun o => sLift fi fun i => sLift (fun _ => gPut v o i) fun _ env _ w => .go .nx env w
theorem f_put {i : Expr} {fo fi fv : EF} {pos' : Pos} (hv : PE X e (tE (cfg X) W fv)) (ho : PE X o (tE (cfg X) W fo)) (hi : PE X i (tE (cfg X) W fi)) (hs : swapsWithSole [.Subscript o i pos'] e pos.line X.env = pure false := by rfl) (hw : swappedStores [.Subscript o i pos'] e X.env = pure none := by rfl)
    (ha : ∀ v, assign (.Subscript o i pos') X.env v = (do
      let ov ← holding [v] (eval o X.env)
      let iv ← holding [v, ov] (eval i X.env)
      standAt pos'
      holding [v, ov, iv] (setItem ov iv v)
      release [v, ov, iv] []) := by intro _; rfl) (h1 : (assignEach [.Subscript o i pos'] X.env).map (·.2) = [assign (.Subscript o i pos') X.env] := by rfl) :
    PS X (.Assign [.Subscript o i pos'] e pos) (tS (cfg X) W (sPut fo fi fv)) := ps_imp (ps_asg hv (pg_sub ho hi set_list ha) hs hw h1) fun D σ H ⟨ρ, env, ro, w, hS, hE, q⟩ => by
  refine tS_seq hS hE q fun dv w1 v ρ1 H1 x1 s1 e1 r1 q1 => ?_
  refine tS_seq s1 e1 q1 fun do' w2 vo ρ2 H2 x2 s2 e2 r2 q2 => ?_
  refine tS_seq s2 e2 q2 fun di w3 vi ρ3 H3 x3 s3 e3 r3 q3 => ?_
  have rv := Rep.ext x3 dv (Rep.ext x2 dv r1)
  have ro' := Rep.ext x3 do' r2
  cases di with
  | int k =>
    have q4 : AfterR (cfg X) (Rep (cfg X)) W σ ρ3 H3 ro (mMod (fun es => match ixN es.length k with
      | some j => some ((.non : Fx.D), es.set j dv)
      | none => none) do' ro w3) (fun _ H4 => D.nx σ H4) :=
      lift_after (f := fun _ => gPut dv do' (.int k)) e3 q3 fun z w4 v4 ρ4 H4 x4 s4 e4 r4 q4 => q4 σ ρ4 H4 .refl s4 e4
    obtain ⟨a, vs, es, r, es', rfl, hv, hr, hf, kk⟩ := mMod_ok s3 ro' q4
    cases e5 : ixN es.length k with
    | none =>
      rw [e5] at hf
      cases hf
    | some j =>
      rw [e5] at hf
      cases hf
      exact ⟨a, vs, k, j, rfl, r3, hv, by rw [← hr.len]; exact e5, kk .non _ rfl (hr.set rv j)⟩
  | _ => exact (show False from q3).elim
end
end Fx
namespace Fx
open PySem PySem.Spec L2

/-! ### what is walked: its items in a row -/
def Walks (C : Cfg) (ρ0 : Zn) (H0 : Hp) (ds : List D) (J : It) : Prop :=
  ∀ (i : Nat) (ρ : Zn) (H : Hp) (v : List D), ExtR ρ0 ρ H0 H → RepS C ρ H v →
    (∀ d, ds[i]? = some d → J.go i H ∧ ∀ x H', J.yld i H x H' → Ext ρ ρ H H' ∧ RepS C ρ H' v ∧ Rep C ρ H' d x) ∧ (ds[i]? = none → J.stop i H)
abbrev tI (C : Cfg) (W : WX) (f : Env → M (List D)) : TI := tR C (Walks C) W f
theorem pi_imp {X : Cx} {tg e : Expr} {t t' : TI} (h : PI X tg e t) (i : ∀ σ H R, t' σ H R → t σ H R) : PI X tg e t' := ⟨fun pins s σ H R I q => h.run pins s σ H R I (i σ H R q)⟩
theorem pi_or {X : Cx} {tg e : Expr} {t t' : TI} (h : PI X tg e t) (h' : PI X tg e t') : PI X tg e (fun σ H R => t σ H R ∨ t' σ H R) := ⟨fun pins s σ H R I q => q.elim (h.run pins s σ H R I) (h'.run pins s σ H R I)⟩

section
variable {X : Cx} {C : Cfg} {W : WX} {pos p : Pos} {a b c e tg : Expr} {es : List Expr} {fa f : EF} {fs : Env → M (List D)} {ρ : Zn} {H : Hp}
/-! ### targets -/
inductive Tg where
  | nm (i : Nat)
  | tp (is : List Nat)
  | np (is js : List Nat)
def Tg.slots : Tg → List Nat
  | .nm i => [i]
  | .tp is => is
  | .np is js => is ++ js
def setsE : Env → List Nat → List D → Env
  | env, i :: is, d :: ds => setsE (env.set i (some d)) is ds
  | env, _, _ => env
def setsS : L2.St → List Nat → List V → L2.St
  | σ, i :: is, v :: vs => setsS (σ.set i (some v)) is vs
  | σ, _, _ => σ
def Tg.put : Tg → D → Env → Option Env
  | .nm i, d, env => some (env.set i (some d))
  | .tp is, .tup ds, env => if ds.length = is.length then some (setsE env is ds) else none
  | .tp _, _, _ => none
  | .np is js, .tup (.tup ds :: es), env => if ds.length = is.length ∧ es.length = js.length then some (setsE (setsE env is ds) js es) else none
  | .np _ _, _, _ => none
def gNs : List Nat → TGs
  | [] => gNil
  | i :: is => gCons (gName i) (gNs is)
def Tg.g (K : PySem.W.Frag) : Tg → TG
  | .nm i => gName i
  | .tp is => gTup K is.length (gNs is)
  | .np is js => gTup K (js.length + 1) (gCons (gTup K is.length (gNs is)) (gNs js))
theorem gNs_ok : ∀ {is : List Nat} {vs : List V} {σ : L2.St} {Q : L2.St → Hp → Prop}, vs.length = is.length → Q (setsS σ is vs) H → gNs is vs σ H Q
  | [], vs, σ, Q, hl, q => by
    cases vs with
    | nil => exact ⟨rfl, q⟩
    | cons _ _ => simp at hl
  | i :: is, vs, σ, Q, hl, q => by
    cases vs with
    | nil => simp at hl
    | cons v vs => exact ⟨v, vs, rfl, gNs_ok (by simpa using hl) q⟩
theorem sets_ok : ∀ {is : List Nat} {ds : List D} {vs : List V} {env : Env} {σ : L2.St}, RepE C ρ H env σ → Reps C ρ H ds vs → RepE C ρ H (setsE env is ds) (setsS σ is vs)
  | [], ds, vs, env, σ, h, r => by
    cases ds with
    | nil =>
      cases (show vs = [] from r)
      exact h
    | cons d ds =>
      obtain ⟨v, r', rfl, _, _⟩ := r
      exact h
  | i :: is, ds, vs, env, σ, h, r => by
    cases ds with
    | nil =>
      cases (show vs = [] from r)
      exact h
    | cons d ds =>
      obtain ⟨v, r', rfl, h1, h2⟩ := r
      exact sets_ok (is := is) (h.set h1) h2
def Tg.set : Tg → List V → V → L2.St → L2.St
  | .nm i, _, v, σ => σ.set i (some v)
  | .tp is, vs, _, σ => setsS σ is vs
  | .np is js, vs, _, σ => setsS (setsS σ is (vs.take is.length)) js (vs.drop is.length)
theorem Tg.ok {t : Tg} {d : D} {v : V} {env env' : Env} {σ : L2.St} {Q : L2.St → Hp → Prop} (hE : RepE C ρ H env σ) (hd : Rep C ρ H d v) (e : t.put d env = some env')
    (q : ∀ vs, RepE C ρ H env' (t.set vs v σ) → Q (t.set vs v σ) H) : t.g C.K v σ H Q := by
  cases t with
  | nm i =>
    cases (show some (env.set i (some d)) = some env' from e)
    exact q [] (hE.set hd)
  | tp is =>
    cases d with
    | tup ds =>
      replace e : (if ds.length = is.length then some (setsE env is ds) else none) = some env' := e
      by_cases c : ds.length = is.length
      · rw [if_pos c] at e
        cases e
        obtain ⟨a, vs, rfl, h, r⟩ := hd
        exact ⟨a, vs, rfl, Still.sqT h, by rw [← r.len, c], gNs_ok (by rw [← r.len, c]) (q vs (sets_ok hE r))⟩
      · rw [if_neg c] at e
        cases e
    | _ => cases e
  | np is js =>
    cases d with
    | tup ds =>
      cases ds with
      | nil => cases e
      | cons d1 es =>
        cases d1 with
        | tup ds =>
          replace e : (if ds.length = is.length ∧ es.length = js.length then some (setsE (setsE env is ds) js es) else none) = some env' := e
          by_cases c : ds.length = is.length ∧ es.length = js.length
          · rw [if_pos c] at e
            cases e
            obtain ⟨a, vs, rfl, h, v1, us, ev, ⟨b, ws, ew, h', r1⟩, r2⟩ := hd
            subst ev ew
            have l1 : ws.length = is.length := by rw [← r1.len, c.1]
            have l2 : us.length = js.length := by rw [← r2.len, c.2]
            have q' := q (ws ++ us)
            have es' : Tg.set (.np is js) (ws ++ us) (.ref a) σ = setsS (setsS σ is ws) js us := by
              show setsS (setsS σ is ((ws ++ us).take is.length)) js ((ws ++ us).drop is.length) = _
              rw [List.take_left' l1, List.drop_left' l1]
            rw [es'] at q'
            exact ⟨a, _, rfl, Still.sqT h, by rw [List.length_cons, l2], .ref b, us, rfl, ⟨b, ws, rfl, Still.sqT h', l1, gNs_ok l1 (gNs_ok l2 (q' (sets_ok (sets_ok hE r1) r2)))⟩⟩
          · rw [if_neg c] at e
            cases e
        | _ => cases e
    | _ => cases e
theorem pg_n (i : Nat) {x : Str} (hN : X.N.Nodup) (hi : X.N[i]? = some x := by rfl) (hx : Loc X.env.scope x := by first | exact Or.inl rfl | exact Or.inr rfl) (hf : X.fn x = true ∨ X.env.scope.names.lookup x = some .local := by first | exact .inl rfl | exact .inr rfl) :
    PG X (.Name x pos) ((Tg.nm i).g X.K) := pg_name hN hi hx hf
theorem pgn_nil : PGs X [] (gNs []) := pgs_nil
theorem pgn_cons {i : Nat} {is : List Nat} (h1 : PG X e ((Tg.nm i).g X.K)) (h2 : PGs X es (gNs is)) (hs : (assignEach (e :: es) X.env).map (·.2) = assign e X.env :: (assignEach es X.env).map (·.2) := by rfl) : PGs X (e :: es) (gNs (i :: is)) := pgs_cons h1 h2 hs
theorem pg_t {k : Nat} {is : List Nat} (hc : X.calm = true) (h : PGs X es (gNs is)) (hn : (assignEach es X.env).length = is.length := by rfl) (hst : (assignEach es X.env).findIdx? (·.1) = none := by rfl) : PG X (.Tuple es k pos) ((Tg.tp is).g X.K) := pg_tup hc h hn hst

/-! ### sources -/
/-- a list, a tuple that stands still -/
def cSeq (f : EF) : Env → M (List D) := fun env => M.bind (f env) fun d => match d with
  | .lst ds => M.pure ds
  | .tup ds => M.pure ds
  | _ => M.no
theorem walks_list {K : PySem.W.Frag} {mg : Str → Option Value} {ds : List D} {v : V} {a : Addr} {vs : List V} (h : Still ρ H a (.lst vs) ∨ KL K a vs) (r : Reps ⟨K, mg, w⟩ ρ H ds vs) : Walks ⟨K, mg, w⟩ ρ H ds (Itl K a) := by
  intro i ρ' H' u x s
  have h' : SqL K H' a vs := h.elim (fun h => .inl (Still.extR x h).2) .inr
  have r' := Reps.extR x ds r
  refine ⟨fun d e => ?_, fun e => ⟨vs, h', ?_⟩⟩
  · obtain ⟨y, h1, h2⟩ := r'.get e
    refine ⟨⟨vs, y, h', h1⟩, fun z H2 ⟨e2, g⟩ => ?_⟩
    subst e2
    have := g vs h'
    rw [h1] at this
    cases this
    exact ⟨.refl, s, h2⟩
  · exact List.getElem?_eq_none_iff.mp (r'.none e)
theorem walks_tup {K : PySem.W.Frag} {mg : Str → Option Value} {ds : List D} {v : V} {a : Addr} {vs : List V} (h : Still ρ H a (.tup vs) ∨ KT K a vs) (r : Reps ⟨K, mg, w⟩ ρ H ds vs) : Walks ⟨K, mg, w⟩ ρ H ds (Itt K a) := by
  intro i ρ' H' u x s
  have h' : SqT K H' a vs := h.elim (fun h => .inl (Still.extR x h).2) .inr
  have r' := Reps.extR x ds r
  refine ⟨fun d e => ?_, fun e => ⟨vs, h', ?_⟩⟩
  · obtain ⟨y, h1, h2⟩ := r'.get e
    refine ⟨⟨vs, y, h', h1⟩, fun z H2 ⟨e2, g⟩ => ?_⟩
    subst e2
    have := g vs h'
    rw [h1] at this
    cases this
    exact ⟨.refl, s, h2⟩
  · exact List.getElem?_eq_none_iff.mp (r'.none e)
theorem pfi_seq (h : PE X e (tE (cfg X) W f)) : PI X tg e (tI (cfg X) W (cSeq f)) := pi_imp (pi_or (pi_list h) (pi_tup h)) fun σ H R ⟨ρ, env, ro, w, hS, hE, q⟩ => by
  unfold cSeq M.bind at q
  cases ef : f env ro w with
  | no =>
    rw [ef] at q
    exact (show False from q).elim
  | exn c ns xs w1 =>
    rw [ef] at q
    exact .inl ⟨ρ, env, ro, w, hS, hE, by rw [ef]; exact q⟩
  | ok d w1 =>
    rw [ef] at q
    cases d with
    | lst ds =>
      refine .inl ⟨ρ, env, ro, w, hS, hE, ?_⟩
      rw [ef]
      intro v ρ1 H1 x1 s1 ⟨a, vs, ev, hv, r⟩
      subst ev
      exact ⟨a, rfl, ⟨vs, Still.sqL hv⟩, q _ ρ1 H1 x1 s1 (walks_list (v := .ref a) hv r)⟩
    | tup ds =>
      refine .inr ⟨ρ, env, ro, w, hS, hE, ?_⟩
      rw [ef]
      intro v ρ1 H1 x1 s1 ⟨a, vs, ev, hv, r⟩
      subst ev
      exact ⟨a, rfl, ⟨vs, Still.sqT hv⟩, q _ ρ1 H1 x1 s1 (walks_tup (v := .ref a) hv r)⟩
    | _ => exact (show False from q).elim
/-- the signs of a text -/
def cSigns (f : EF) : Env → M (List D) := fun env => M.bind (f env) fun d => match d with
  | .str x => M.pure (x.cps.toList.map fun c => .str ⟨#[c]⟩)
  | _ => M.no
theorem walks_str {x : Str} : Walks C ρ H (x.cps.toList.map fun c => .str ⟨#[c]⟩) (Its x) := by
  intro i ρ' H' u y s
  refine ⟨fun d e => ?_, fun e => ?_⟩
  · rw [List.getElem?_map] at e
    cases ec : x.cps.toList[i]? with
    | none =>
      rw [ec] at e
      cases e
    | some c =>
      rw [ec] at e
      cases e
      have hi := (List.getElem?_eq_some_iff.mp ec).1
      refine ⟨(by simpa using hi : i < x.cps.size), fun z H2 ⟨e2, c', g1, g2⟩ => ?_⟩
      subst e2
      have ec' : x.cps[i]? = some c := by simpa using ec
      rw [ec'] at g1
      cases g1
      exact ⟨.refl, s, g2⟩
  · have := List.getElem?_eq_none_iff.mp e
    show x.cps.size ≤ i
    simpa using this
theorem pfi_str (h : PE X e (tE C W f)) : PI X tg e (tI C W (cSigns f)) := pi_imp (pi_str h) fun σ H R ⟨ρ, env, ro, w, hS, hE, q⟩ => by
  refine tR_seq hS hE q fun d w1 v ρ1 H1 x1 s1 r1 q1 => ?_
  cases d with
  | str x => exact ⟨x, r1, q1 _ ρ1 H1 .refl s1 walks_str⟩
  | _ => exact (show False from q1).elim
/-- range -/
def rngD (lo : Int) (n : Nat) : List D := (List.range n).map fun (i : Nat) => .int (lo + i)
def gRng1 : List D → M (List D)
  | [.int j] => fun _ w => if j.natAbs < 2 ^ 62 then .ok (rngD 0 j.toNat) w else .no
  | _ => M.no
def gRng2 : List D → M (List D)
  | [.int i, .int j] => fun _ w => if i.natAbs < 2 ^ 62 ∧ j.natAbs < 2 ^ 62 then .ok (rngD i (j - i).toNat) w else .no
  | _ => M.no
def cRng1 (fs : Env → M (List D)) : Env → M (List D) := fun env => M.bind (fs env) gRng1
def cRng2 (fs : Env → M (List D)) : Env → M (List D) := fun env => M.bind (fs env) gRng2
theorem walks_rng {lo : Int} {n : Nat} : Walks C ρ H (rngD lo n) (Itr lo n) := by
  intro i ρ' H' u y s
  unfold rngD
  refine ⟨fun d e => ?_, fun e => ?_⟩
  · rw [List.getElem?_map] at e
    by_cases hi : i < n
    · rw [List.getElem?_range hi] at e
      cases e
      refine ⟨hi, fun z H2 ⟨e2, g⟩ => ?_⟩
      subst e2
      exact ⟨.refl, s, g⟩
    · rw [List.getElem?_eq_none (by simpa using hi)] at e
      cases e
  · rw [List.getElem?_eq_none_iff] at e
    exact (by simpa using e : n ≤ i)
theorem int_of {ds : List D} {vs : List V} {i : Int} (r : Reps C ρ H (.int i :: ds) vs) : ∃ vr, vs = .int i :: vr ∧ Reps C ρ H ds vr := by
  obtain ⟨v, r', e1, e2, e3⟩ := r
  cases (show v = .int i from e2)
  exact ⟨r', e1, e3⟩
theorem pfi_rng1 (hg : Gl X "range") (hm : X.mg "range" = none) (ha : PA X [a] (tA C W fs)) (hs : starEach [a] X.env = [(false, eval a X.env)] := by rfl) : PI X tg (.Call (.Name "range" p) [a] [] pos) (tI C W (cRng1 fs)) :=
  pi_imp (pi_range1 hg hm ha hs) fun σ H R ⟨ρ, env, ro, w, hS, hE, q⟩ => by
    refine tR_seq hS hE q fun ds w1 vs ρ1 H1 x1 s1 r1 q1 => ?_
    unfold gRng1 at q1
    split at q1
    · rename_i j
      obtain ⟨vr, rfl, e3⟩ := int_of r1
      cases (show vr = [] from e3)
      by_cases c : j.natAbs < 2 ^ 62
      · simp only [if_pos c] at q1
        exact ⟨j, rfl, by omega, by omega, q1 _ ρ1 H1 .refl s1 walks_rng⟩
      · simp only [if_neg c] at q1
        exact (show False from q1).elim
    · exact (show False from q1).elim
/-! ### for -/
def forL (t : Tg) (body : SF) : List D → SF
  | [] => sNil
  | d :: ds => fun env ro w => match t.put d env with
    | none => .no
    | some env1 => match body env1 ro w with
      | .go .nx env2 w2 => forL t body ds env2 ro w2
      | .go .ct env2 w2 => forL t body ds env2 ro w2
      | .go .bk env2 w2 => .go .nx env2 w2
      | .go (.rt d) env2 w2 => .go (.rt d) env2 w2
      | .exn c ns xs env2 w2 => .exn c ns xs env2 w2
      | .no => .no
def sFor (t : Tg) (it : Env → M (List D)) (body : SF) : SF := sLift it fun ds => forL t body ds
theorem tS_for {t : Tg} {it : Env → M (List D)} {body : SF} {D : Ends} {σ : L2.St} {H : Hp} (q : tS (cfg X) W (sFor t it body) D σ H) : tFor (tI (cfg X) W it) (t.g X.K) (tS (cfg X) W body) D σ H := by
  obtain ⟨ρ, env, ro, w, hS, hE, q⟩ := q
  refine tS_seq hS hE q fun ds w1 J ρ1 H1 x1 s1 e1 walk q1 => ?_
  refine ⟨fun i m σ H => i + m = ds.length ∧ ∃ ρ2 env2 w2, Ext ρ1 ρ2 H1 H ∧ RepS (cfg X) ρ2 H (ro ++ w2) ∧ RepE (cfg X) ρ2 H env2 σ ∧ AfterS (cfg X) W ρ2 H ro (forL t body (ds.drop i) env2 ro w2) D,
    ⟨ds.length, by omega, ρ1, env, w1, .refl, s1, e1, q1⟩, fun i m σ H ⟨hm, ρ2, env2, w2, x2, s2, e2, q2⟩ => ?_⟩
  have wk := walk i ρ2 H _ x2.r s2
  cases hd : ds[i]? with
  | none =>
    have hl := List.getElem?_eq_none_iff.mp hd
    rw [List.drop_eq_nil_of_le hl] at q2
    exact .inl ⟨wk.2 hd, q2 σ ρ2 H .refl s2 e2⟩
  | some d =>
    have hl := (List.getElem?_eq_some_iff.mp hd).1
    have hdrop : ds.drop i = d :: ds.drop (i + 1) := by
      rw [List.drop_eq_getElem_cons hl, (List.getElem?_eq_some_iff.mp hd).2]
    rw [hdrop] at q2
    obtain ⟨go, yl⟩ := wk.1 d hd
    refine .inr ⟨go, fun σ' H' => ∃ ρ3 env3 w3, Ext ρ1 ρ3 H1 H' ∧ RepS (cfg X) ρ3 H' (ro ++ w3) ∧ RepE (cfg X) ρ3 H' env3 σ' ∧ AfterS (cfg X) W ρ3 H' ro (forL t body (ds.drop (i + 1)) env3 ro w3) D,
      fun σ' H' h => ⟨m - 1, by omega, by omega, h⟩, fun y H' hy => ?_⟩
    obtain ⟨x3, s3, r3⟩ := yl y H' hy
    unfold forL at q2
    cases hput : t.put d env2 with
    | none =>
      simp only [hput] at q2
      exact (show False from q2).elim
    | some env3 =>
      simp only [hput] at q2
      refine Tg.ok (C := cfg X) (e2.ext x3) r3 hput fun vs e3 => ⟨ρ2, env3, ro, w2, s3, e3, ?_⟩
      cases hbd : body env3 ro w2 with
      | no =>
        simp only [hbd] at q2
        exact q2
      | exn c ns xs env4 w4 =>
        simp only [hbd] at q2
        exact AfterS.ext x3 q2
      | go fl env4 w4 =>
        simp only [hbd] at q2
        cases fl with
        | nx => exact fun σ5 ρ5 H5 x5 s5 e5 => ⟨ρ5, env4, w4, x2.trans (x3.trans x5), s5, e5, AfterS.ext (x3.trans x5) q2⟩
        | ct => exact fun σ5 ρ5 H5 x5 s5 e5 => ⟨ρ5, env4, w4, x2.trans (x3.trans x5), s5, e5, AfterS.ext (x3.trans x5) q2⟩
        | bk => exact fun σ5 ρ5 H5 x5 s5 e5 => q2 σ5 ρ5 H5 (x3.trans x5) s5 e5
        | rt d' => exact fun v5 ρ5 H5 x5 s5 r5 => q2 v5 ρ5 H5 (x3.trans x5) s5 r5

theorem f_for {t : Tg} {it : Env → M (List D)} {body : SF} {sts : List Stmt} (hp : PassesOwn (model X.prog X.w) X.A X.env X.xe) (hc : X.calm = true) (hi : PI X tg e (tI (cfg X) W it)) (hg : PG X tg (t.g X.K)) (hb : PSs X sts (tS (cfg X) W body)) (hs : ∀ x, foldedSetIterable e X.env x = pure x := by intro _; rfl) :
    PS X (.For tg e sts [] pos) (tS (cfg X) W (sFor t it body)) := ps_imp (ps_for hp hc hi hg hb (hs := hs)) fun D σ H q => tS_for q

/-! ### while: at most `n` turns -/
def whileL (ta : Env → M Bool) (body : SF) : Nat → SF
  | 0 => fun _ _ _ => .no
  | n + 1 => sLift ta fun b => if b = true then fun env ro w => match body env ro w with
      | .go .nx env2 w2 => whileL ta body n env2 ro w2
      | .go .ct env2 w2 => whileL ta body n env2 ro w2
      | .go .bk env2 w2 => .go .nx env2 w2
      | .go (.rt d) env2 w2 => .go (.rt d) env2 w2
      | .exn c ns xs env2 w2 => .exn c ns xs env2 w2
      | .no => .no else sNil
def sWhile (n : Nat) (ta : Env → M Bool) (body : SF) : SF := whileL ta body n
theorem f_while {n : Nat} {ta : Env → M Bool} {body : SF} {sts : List Stmt} (hp : PassesOwn (model X.prog X.w) X.A X.env X.xe) (hc : PT X c (tT (cfg X) W ta)) (hb : PSs X sts (tS (cfg X) W body)) :
    PS X (.While c sts [] pos) (tS (cfg X) W (sWhile n ta body)) := ps_imp (ps_while hp hc hb) fun D σ H ⟨ρ, env, ro, w, hS, hE, q⟩ => by
  refine ⟨fun m σ H => ∃ ρ2 env2 w2, RepS (cfg X) ρ2 H (ro ++ w2) ∧ RepE (cfg X) ρ2 H env2 σ ∧ AfterS (cfg X) W ρ2 H ro (whileL ta body m env2 ro w2) D, ⟨n, ρ, env, w, hS, hE, q⟩, fun m σ H ⟨ρ2, env2, w2, s2, e2, q2⟩ => ?_⟩
  cases m with
  | zero => exact (show False from q2).elim
  | succ m =>
    refine tS_seq s2 e2 q2 fun b w3 b' ρ3 H3 x3 s3 e3 r3 q3 => ?_
    cases (show b = b' from r3)
    cases b with
    | false =>
      rw [if_neg Bool.false_ne_true] at q3 ⊢
      exact q3 σ ρ3 H3 .refl s3 e3
    | true =>
      rw [if_pos rfl] at q3 ⊢
      refine ⟨fun σ' H' => ∃ ρ4 env4 w4, RepS (cfg X) ρ4 H' (ro ++ w4) ∧ RepE (cfg X) ρ4 H' env4 σ' ∧ AfterS (cfg X) W ρ4 H' ro (whileL ta body m env4 ro w4) D, fun σ' H' h => ⟨m, Nat.lt_succ_self _, h⟩, ρ3, env2, ro, w3, s3, e3, ?_⟩
      cases hbd : body env2 ro w3 with
      | no =>
        simp only [hbd] at q3
        exact q3
      | exn c ns xs env4 w4 =>
        simp only [hbd] at q3
        exact q3
      | go fl env4 w4 =>
        simp only [hbd] at q3
        cases fl with
        | nx => exact fun σ5 ρ5 H5 x5 s5 e5 => ⟨ρ5, env4, w4, s5, e5, AfterS.ext x5 q3⟩
        | ct => exact fun σ5 ρ5 H5 x5 s5 e5 => ⟨ρ5, env4, w4, s5, e5, AfterS.ext x5 q3⟩
        | bk => exact q3
        | rt d' => exact q3
end
end Fx
namespace Fx
open PySem PySem.Spec L2

/-! ### the slots of a block wiped -/
theorem wipe_get (σ : L2.St) : ∀ (vs : List Nat) (j : Nat), (wipe σ vs)[j]? = if j ∈ vs then (if j < σ.length then some none else none) else σ[j]?
  | [], j => by simp [wipe]
  | v :: vs, j => by
    unfold wipe
    by_cases e : v = j
    · subst e
      simp only [List.mem_cons, true_or, if_true]
      by_cases hl : v < σ.length
      · rw [List.getElem?_set_self (by rw [wipe_length]; exact hl), if_pos hl]
      · rw [if_neg hl, List.getElem?_eq_none (by rw [List.length_set, wipe_length]; omega)]
    · rw [List.getElem?_set_ne e, wipe_get σ vs j]
      have : (j ∈ v :: vs) = (j ∈ vs) := by simp [Ne.symm e]
      simp only [this]
theorem wipe_eq {σ σ' : L2.St} {vs : List Nat} (hl : σ'.length = σ.length) (h : ∀ j, j ∉ vs → σ'[j]? = σ[j]?) : wipe σ' vs = wipe σ vs := by
  apply List.ext_getElem?
  intro j
  rw [wipe_get, wipe_get, hl]
  by_cases hj : j ∈ vs
  · simp only [if_pos hj]
  · simp only [if_neg hj]
    exact h j hj
theorem setsS_len : ∀ (is : List Nat) (vs : List V) (σ : L2.St), (setsS σ is vs).length = σ.length
  | [], vs, σ => by cases vs <;> rfl
  | i :: is, [], σ => rfl
  | i :: is, v :: vs, σ => by
    show (setsS (σ.set i (some v)) is vs).length = _
    rw [setsS_len is vs, List.length_set]
theorem setsS_get : ∀ (is : List Nat) (vs : List V) (σ : L2.St) (j : Nat), j ∉ is → (setsS σ is vs)[j]? = σ[j]?
  | [], vs, σ, j, _ => by cases vs <;> rfl
  | i :: is, [], σ, j, _ => rfl
  | i :: is, v :: vs, σ, j, h => by
    show (setsS (σ.set i (some v)) is vs)[j]? = _
    have h' : j ≠ i ∧ j ∉ is := by simpa using h
    rw [setsS_get is vs _ j h'.2, List.getElem?_set_ne (Ne.symm h'.1)]
theorem wipe_set {t : Tg} {own : List Nat} {vs : List V} {v : V} {σ : L2.St} (h : ∀ i ∈ t.slots, i ∈ own) : wipe (t.set vs v (wipe σ own)) own = wipe σ own := by
  have e1 : wipe (t.set vs v (wipe σ own)) own = wipe (wipe σ own) own := by
    cases t with
    | nm i =>
      refine wipe_eq (by simp [Tg.set]) fun j hj => ?_
      show ((wipe σ own).set i (some v))[j]? = _
      exact List.getElem?_set_ne fun e => hj (by rw [← e]; exact h i (by simp [Tg.slots]))
    | tp is =>
      refine wipe_eq (setsS_len _ _ _) fun j hj => ?_
      exact setsS_get is vs _ j fun hm => hj (h j hm)
    | np is js =>
      refine wipe_eq ((setsS_len _ _ _).trans (setsS_len _ _ _)) fun j hj => ?_
      exact (setsS_get js _ _ j fun hm => hj (h j (List.mem_append_right _ hm))).trans (setsS_get is _ _ j fun hm => hj (h j (List.mem_append_left _ hm)))
  rw [e1]
  refine wipe_eq (wipe_length _ _) fun j hj => ?_
  rw [wipe_get, if_neg hj]
def wipeE (env : Env) : List Nat → Env
  | [] => env
  | v :: vs => (wipeE env vs).set v none
theorem wipeE_ok {C : Cfg} {ρ : Zn} {H : Hp} {env : Env} {σ : L2.St} (h : RepE C ρ H env σ) : ∀ vs : List Nat, RepE C ρ H (wipeE env vs) (wipe σ vs)
  | [] => h
  | v :: vs => by
    have ih := wipeE_ok h vs
    refine ⟨by simp [wipeE, wipe, ih.len], fun j d e => ?_⟩
    unfold wipeE at e
    unfold wipe
    by_cases hj : v = j
    · subst hj
      by_cases hl : v < (wipeE env vs).length
      · rw [List.getElem?_set_self hl] at e
        cases e
      · rw [List.getElem?_eq_none (by simpa using hl)] at e
        cases e
    · rw [List.getElem?_set_ne hj] at e
      obtain ⟨u, h1, h2⟩ := ih.at' j d e
      exact ⟨u, by rw [List.getElem?_set_ne hj]; exact h1, h2⟩

/-! ### one object hidden -/
abbrev Zn.hide (ρ : Zn) (a : Addr) : Zn := ⟨ρ.r, a :: ρ.h⟩
section
variable {C : Cfg} {ρ ρ' : Zn} {H H' : Hp} {w : List D} {a : Addr} {o : HO}
theorem hide_new (hS : RepS C ρ H w) (ha : H a = none) : ExtR ρ (ρ.hide a) H (upd H a o) ∧ RepS C (ρ.hide a) (upd H a o) w := by
  have x : ExtR ρ (ρ.hide a) H (upd H a o) := ⟨⟨[], by simp⟩, fun b u e n => ⟨by rw [upd_ne (ne_of_none e ha)]; exact e, n.1, fun z => by
    rcases List.mem_cons.mp z with z | z
    · exact ne_of_none e ha z
    · exact n.2 z⟩⟩
  refine ⟨x, hS.len, hS.nd, fun i b d h1 h2 => ?_, fun b hb => ?_⟩
  · have hb : b ≠ a := fun e => (hS.fresh ha).1 (e ▸ List.mem_of_getElem? h1)
    have q := hS.obj i b d h1 h2
    cases d with
    | lst ds => obtain ⟨vs, e, r⟩ := q; exact ⟨vs, (upd_ne hb).trans e, Reps.extR x ds r⟩
    | dic ks ds => obtain ⟨vs, e, k, r⟩ := q; exact ⟨vs, (upd_ne hb).trans e, k, Reps.extR x ds r⟩
    | dct ks ds => obtain ⟨es, ep, as, vs, e, en, nd, rk, r⟩ := q; exact ⟨es, ep, as, vs, (upd_ne hb).trans e, en, nd, Reps.extR x ks rk, Reps.extR x ds r⟩
    | ins c ns ds => obtain ⟨A, dx, fs, m, e, k, r⟩ := q; exact ⟨A, dx, fs, m, (upd_ne hb).trans e, k, Reps.extR x ds r⟩
    | _ => exact (show False from q).elim
  · rcases List.mem_cons.mp hb with e | hb
    · subst e
      exact ⟨(hS.fresh ha).1, o, upd_same⟩
    · refine ⟨(hS.hid b hb).1, ?_⟩
      obtain ⟨u, e⟩ := (hS.hid b hb).2
      exact ⟨u, by rw [upd_ne (ne_of_none e ha)]; exact e⟩
/-- the hidden object is written -/
theorem hide_put (hS : RepS C ρ H w) (ha : a ∈ ρ.h) : ExtR ρ ρ H (upd H a o) ∧ RepS C ρ (upd H a o) w := by
  have x : ExtR ρ ρ H (upd H a o) := ⟨⟨[], by simp⟩, fun b u e n => ⟨by rw [upd_ne fun z => n.2 (by rw [z]; exact ha)]; exact e, n⟩⟩
  refine ⟨x, hS.len, hS.nd, fun i b d h1 h2 => ?_, fun b hb => ?_⟩
  · have hb : b ≠ a := fun e => (hS.hid a ha).1 (e ▸ List.mem_of_getElem? h1)
    have q := hS.obj i b d h1 h2
    cases d with
    | lst ds => obtain ⟨vs, e, r⟩ := q; exact ⟨vs, (upd_ne hb).trans e, Reps.extR x ds r⟩
    | dic ks ds => obtain ⟨vs, e, k, r⟩ := q; exact ⟨vs, (upd_ne hb).trans e, k, Reps.extR x ds r⟩
    | dct ks ds => obtain ⟨es, ep, as, vs, e, en, nd, rk, r⟩ := q; exact ⟨es, ep, as, vs, (upd_ne hb).trans e, en, nd, Reps.extR x ks rk, Reps.extR x ds r⟩
    | ins c ns ds => obtain ⟨A, dx, fs, m, e, k, r⟩ := q; exact ⟨A, dx, fs, m, (upd_ne hb).trans e, k, Reps.extR x ds r⟩
    | _ => exact (show False from q).elim
  · refine ⟨(hS.hid b hb).1, ?_⟩
    by_cases e : b = a
    · subst e
      exact ⟨o, upd_same⟩
    · obtain ⟨u, e2⟩ := (hS.hid b hb).2
      exact ⟨u, by rw [upd_ne e]; exact e2⟩
/-- .. and comes forth -/
theorem hide_end {h : List Addr} (hS : RepS C ρ H w) (hh : ρ.h = a :: h) : ExtR ρ ⟨ρ.r, h⟩ H H ∧ RepS C ⟨ρ.r, h⟩ H w := by
  have x : ExtR ρ ⟨ρ.r, h⟩ H H := ⟨⟨[], by simp⟩, fun b u e n => ⟨e, n.1, fun z => n.2 (by rw [hh]; exact List.mem_cons_of_mem _ z)⟩⟩
  refine ⟨x, hS.len, hS.nd, fun i b d h1 h2 => ?_, fun b hb => hS.hid b (by rw [hh]; exact List.mem_cons_of_mem _ hb)⟩
  have q := hS.obj i b d h1 h2
  cases d with
  | lst ds => obtain ⟨vs, e, r⟩ := q; exact ⟨vs, e, Reps.extR x ds r⟩
  | dic ks ds => obtain ⟨vs, e, k, r⟩ := q; exact ⟨vs, e, k, Reps.extR x ds r⟩
  | dct ks ds => obtain ⟨es, ep, as, vs, e, en, nd, rk, r⟩ := q; exact ⟨es, ep, as, vs, e, en, nd, Reps.extR x ks rk, Reps.extR x ds r⟩
  | ins c ns ds => obtain ⟨A, dx, fs, m, e, k, r⟩ := q; exact ⟨A, dx, fs, m, e, k, Reps.extR x ds r⟩
  | _ => exact (show False from q).elim
end

/-! ### a list comprehension -/
def M.calm {α : Type} (m : M α) : M α := fun ro w => match m ro w with
  | .ok a w' => .ok a w'
  | _ => .no
def W0 : WX := fun _ _ _ _ => False
def cYes : Env → M Bool := fun _ => M.pure true
def compR (t : Tg) (tt : Env → M Bool) (f : EF) (env : Env) : List D → M (List D)
  | [] => M.pure []
  | d :: ds => match t.put d env with
    | none => M.no
    | some env1 => M.bind (M.calm (tt env1)) fun b => if b = true then M.bind (M.calm (f env1)) fun x => M.bind (compR t tt f env ds) fun r => M.pure (x :: r) else compR t tt f env ds
/-- the items, at most as many as a list may have -/
def few (it : Env → M (List D)) : Env → M (List D) := fun env => M.bind (it env) fun ds => fun _ w => if ds.length ≤ sizeLine then .ok ds w else .no
def cComp (t : Tg) (own : List Nat) (it : Env → M (List D)) (tt : Env → M Bool) (f : EF) (k : List D → M D) : EF := fun env => M.bind (few it env) fun ds => M.bind (compR t tt f (wipeE env own) ds) k
/-- what becomes of the list: it stands still, or it may change -/
def kStill (ds : List D) : M D := M.pure (.lst ds)
def kMut (ds : List D) : M D := mNew (.lst ds)

section
variable {X : Cx} {C : Cfg} {W : WX} {σ : L2.St} {ρ : Zn} {H : Hp} {ro w : List D}
theorem calm_ok {α : Type} {m : M α} {a : α} {w' : List D} (h : M.calm m ro w = .ok a w') : m ro w = .ok a w' := by
  unfold M.calm at h
  split at h
  · rename_i e
    cases h
    exact e
  · cases h
theorem bind_ok {α β : Type} {m : M α} {f : α → M β} {b : β} {w' : List D} (h : M.bind m f ro w = .ok b w') : ∃ a w1, m ro w = .ok a w1 ∧ f a ro w1 = .ok b w' := by
  unfold M.bind at h
  split at h
  · exact ⟨_, _, by assumption, h⟩
  · cases h
  · cases h
theorem calm_never {α : Type} {m : M α} {o : Out α} (h : M.calm m ro w = o) : (∃ a w', o = .ok a w') ∨ o = .no := by
  subst h
  unfold M.calm
  split
  · exact .inl ⟨_, _, rfl⟩
  · exact .inr rfl
theorem compR_never {t : Tg} {tt : Env → M Bool} {f : EF} {env : Env} : ∀ (ds : List D) {w : List D}, (∃ r w', compR t tt f env ds ro w = .ok r w') ∨ compR t tt f env ds ro w = .no
  | [], w => .inl ⟨[], w, rfl⟩
  | d :: ds, w => by
    unfold compR
    cases t.put d env with
    | none => exact .inr rfl
    | some env1 =>
      dsimp only
      unfold M.bind
      rcases calm_never (m := tt env1) (ro := ro) (w := w) rfl with ⟨b, w1, e⟩ | e
      · rw [e]
        dsimp only
        cases b with
        | false =>
          rw [if_neg Bool.false_ne_true]
          exact compR_never ds
        | true =>
          rw [if_pos rfl]
          rcases calm_never (m := f env1) (ro := ro) (w := w1) rfl with ⟨x, w2, e2⟩ | e2
          · rw [e2]
            dsimp only
            rcases compR_never (t := t) (tt := tt) (f := f) (env := env) ds (w := w2) with ⟨r, w3, e3⟩ | e3
            · rw [e3]
              exact .inl ⟨_, _, rfl⟩
            · rw [e3]
              exact .inr rfl
          · rw [e2]
            exact .inr rfl
      · rw [e]
        exact .inr rfl
theorem ext_out {ρ1 ρ ρ4 : Zn} {H1 H H4 : Hp} {D0 : Addr} (xo : Ext ρ1 ⟨ρ.r, ρ1.h⟩ H1 H) (hh : ρ.h = D0 :: ρ1.h) (hD : H1 D0 = none) (y : Ext ρ ρ4 H H4) : Ext ρ1 ⟨ρ4.r, ρ1.h⟩ H1 H4 := by
  obtain ⟨⟨ν, p1⟩, h1, k1, m1⟩ := xo
  obtain ⟨⟨μ, p2⟩, h2, k2, m2⟩ := y
  refine ⟨⟨ν ++ μ, by rw [p2, show ρ.r = ρ1.r ++ ν from p1, List.append_assoc]⟩, rfl, fun a o e n => ?_, fun a ha => (m2 a (by rw [hh]; exact List.mem_cons_of_mem _ ha)).trans (m1 a ha)⟩
  obtain ⟨e1, n1⟩ := k1 a o e n
  obtain ⟨e2, n2⟩ := k2 a o e1 ⟨n1.1, fun z => by
    rw [hh] at z
    rcases List.mem_cons.mp z with z | z
    · exact ne_of_none e hD z
    · exact n.2 z⟩
  exact ⟨e2, n2.1, n.2⟩
theorem ext_outR {ρ1 ρ : Zn} {H1 H : Hp} {D0 : Addr} (xo : Ext ρ1 ⟨ρ.r, ρ1.h⟩ H1 H) (hh : ρ.h = D0 :: ρ1.h) (hD : H1 D0 = none) : ExtR ρ1 ρ H1 H := ⟨xo.pre, fun a o e n => by
  obtain ⟨e1, n1⟩ := xo.keep a o e n
  exact ⟨e1, n1.1, fun z => by
    rw [hh] at z
    rcases List.mem_cons.mp z with z | z
    · exact ne_of_none e hD z
    · exact n.2 z⟩⟩
theorem ext_upd {ρ1 ρ2 : Zn} {H1 H : Hp} {D0 : Addr} {o : HO} (xo : Ext ρ1 ρ2 H1 H) (hD : H1 D0 = none) (hh : D0 ∉ ρ1.h) : Ext ρ1 ρ2 H1 (upd H D0 o) :=
  ⟨xo.pre, xo.hid, fun a u e n => ⟨by rw [upd_ne (ne_of_none e hD)]; exact (xo.keep a u e n).1, (xo.keep a u e n).2⟩, fun a ha => by rw [upd_ne fun e => hh (by rw [← e]; exact ha)]; exact xo.same a ha⟩
/-- the turns: from `acc` at D on -/
theorem lc_ok {t : Tg} {own : List Nat} {tt : Env → M Bool} {f : EF} {env : Env} {ds : List D} {J : It} {Qd : Hp → Prop} {w1 : List D} {r : List D} {wf : List D} {ρ1 : Zn} {H1 : Hp} {D0 : Addr}
    (ht : ∀ i ∈ t.slots, i ∈ own) (hn : ds.length ≤ sizeLine) (walk : Walks C ρ1 H1 ds J) (s1 : RepS C ρ1 H1 (ro ++ w1)) (e1 : RepE C ρ1 H1 env σ) (hD : H1 D0 = none)
    (hr : compR t tt f (wipeE env own) ds ro w1 = .ok r wf)
    (k : ∀ (ρ2 : Zn) H2 vs, Ext ρ1 ⟨ρ2.r, ρ1.h⟩ H1 H2 → ρ2.h = D0 :: ρ1.h → RepS C ρ2 H2 (ro ++ wf) → H2 D0 = some (.lst vs) → Reps C ρ2 H2 r vs → Qd H2) :
    ∃ W : Nat → Nat → Hp → Prop, (∃ m, W 0 m (upd H1 D0 (.lst []))) ∧ ∀ i m H, W i m H →
      (J.stop i H ∧ Qd H) ∨ (J.go i H ∧ ∃ Nx : Hp → Prop, (∀ H', Nx H' → ∃ m', m' < m ∧ W (i + 1) m' H') ∧ ∀ x H', J.yld i H x H' → t.g C.K x (wipe σ own) H' fun σ2 H2 => wipe σ2 own = wipe σ own ∧ tT C W0 tt σ2 H2 fun b H3 =>
        if b = true then tE C W0 f σ2 H3 fun y H4 => ∃ acc, H4 D0 = some (.lst acc) ∧ acc.length < sizeLine ∧ Nx (upd H4 D0 (.lst (acc ++ [y]))) else Nx H3) := by
  -- what holds at turn i
  let I : Nat → Hp → Prop := fun i H => ∃ ρ w acc vs r2, Ext ρ1 ⟨ρ.r, ρ1.h⟩ H1 H ∧ ρ.h = D0 :: ρ1.h ∧ RepS C ρ H (ro ++ w) ∧ RepE C ρ H (wipeE env own) (wipe σ own) ∧ H D0 = some (.lst vs) ∧ Reps C ρ H acc vs ∧ acc.length ≤ i ∧
    compR t tt f (wipeE env own) (ds.drop i) ro w = .ok r2 wf ∧ r = acc ++ r2
  have h0 : I 0 (upd H1 D0 (.lst [])) := by
    obtain ⟨x, s⟩ := hide_new (o := .lst []) s1 hD
    refine ⟨ρ1.hide D0, w1, [], [], r, ⟨⟨[], by simp⟩, rfl, fun a o e n => ⟨by rw [upd_ne (ne_of_none e hD)]; exact e, n⟩, fun a ha => upd_ne fun e => (s1.fresh hD).2 (e ▸ ha)⟩, rfl, s, wipeE_ok (e1.extR x) own, upd_same, rfl, Nat.le_refl _, hr, rfl⟩
  refine ⟨fun i m H => i + m = ds.length ∧ I i H, ⟨ds.length, by omega, h0⟩, fun i m H ⟨hm, ρ, w, acc, vs, r2, xo, hh, s, e, hDv, hacc, hai, hcomp, hr2⟩ => ?_⟩
  have wk := walk i ρ H _ (ext_outR xo hh hD) s
  have hDm : D0 ∈ ρ.h := by rw [hh]; exact List.mem_cons_self
  cases hd : ds[i]? with
  | none =>
    have hl := List.getElem?_eq_none_iff.mp hd
    rw [List.drop_eq_nil_of_le hl] at hcomp
    cases (show (Out.ok [] w : Out (List D)) = .ok r2 wf from hcomp)
    refine .inl ⟨wk.2 hd, k ρ H vs xo hh s hDv ?_⟩
    rw [hr2, List.append_nil]
    exact hacc
  | some d =>
    have hl := (List.getElem?_eq_some_iff.mp hd).1
    have hdrop : ds.drop i = d :: ds.drop (i + 1) := by
      rw [List.drop_eq_getElem_cons hl, (List.getElem?_eq_some_iff.mp hd).2]
    rw [hdrop] at hcomp
    obtain ⟨go, yl⟩ := wk.1 d hd
    refine .inr ⟨go, fun H' => I (i + 1) H', fun H' h => ⟨m - 1, by omega, by omega, h⟩, fun y H' hy => ?_⟩
    obtain ⟨x3, s3, r3⟩ := yl y H' hy
    unfold compR at hcomp
    cases hput : t.put d (wipeE env own) with
    | none =>
      simp only [hput] at hcomp
      cases hcomp
    | some env1 =>
      simp only [hput] at hcomp
      obtain ⟨b, w4, hb, hcomp⟩ := bind_ok hcomp
      replace hb := calm_ok hb
      refine Tg.ok (e.ext x3) r3 hput fun us e3 => ⟨wipe_set ht, ρ, env1, ro, w, s3, e3, ?_⟩
      rw [hb]
      intro b' ρ4 H4 x4 s4 rb
      cases (show b = b' from rb)
      have e4 := e3.ext x4
      have xo4 := ext_out (ext_out xo hh hD x3) hh hD x4
      have hh4 : ρ4.h = D0 :: ρ1.h := x4.hid.trans hh
      have hDv4 : H4 D0 = some (.lst vs) := by rw [x4.same D0 hDm, x3.same D0 hDm]; exact hDv
      cases b with
      | false =>
        rw [if_neg Bool.false_ne_true] at hcomp ⊢
        exact ⟨ρ4, w4, acc, vs, r2, xo4, hh4, s4, (e.ext x3).ext x4, hDv4, Reps.ext x4 acc (Reps.ext x3 acc hacc), by omega, hcomp, hr2⟩
      | true =>
        rw [if_pos rfl] at hcomp ⊢
        obtain ⟨x, w5, hx, hcomp⟩ := bind_ok hcomp
        obtain ⟨r5, w6, hr5, hcomp⟩ := bind_ok hcomp
        cases (show (Out.ok (x :: r5) w6 : Out (List D)) = .ok r2 wf from hcomp)
        replace hx := calm_ok hx
        refine ⟨ρ4, env1, ro, w4, s4, e4, ?_⟩
        rw [hx]
        intro z ρ5 H5 x5 s5 r5'
        have hDm4 : D0 ∈ ρ4.h := by rw [hh4]; exact List.mem_cons_self
        have hh5 : ρ5.h = D0 :: ρ1.h := x5.hid.trans hh4
        have hDm5 : D0 ∈ ρ5.h := by rw [hh5]; exact List.mem_cons_self
        have hDv5 : H5 D0 = some (.lst vs) := by rw [x5.same D0 hDm4]; exact hDv4
        have hacc5 := Reps.ext x5 acc (Reps.ext x4 acc (Reps.ext x3 acc hacc))
        refine ⟨vs, hDv5, by rw [← hacc5.len]; omega, ?_⟩
        obtain ⟨x6, s6⟩ := hide_put (o := .lst (vs ++ [z])) s5 hDm5
        refine ⟨ρ5, w5, acc ++ [x], vs ++ [z], r5, ext_upd (ext_out xo4 hh4 hD x5) hD (s1.fresh hD).2, hh5, s6, (((e.ext x3).ext x4).ext x5).extR x6, upd_same, (Reps.extR x6 acc hacc5).append (Reps.one (Rep.extR x6 x r5')), by simp; omega, hr5, by rw [hr2]; simp⟩
end

section
variable {X : Cx} {W : WX} {pos p pos' : Pos} {elt tg iter : Expr} {ifs : List Expr} {scope : Scope} {own : List (Str × Nat)} {it : Env → M (List D)} {tt : Env → M Bool} {f : EF} {t : Tg}
/-- what stands behind the comprehension -/
def KOk (C : Cfg) (k : List D → M D) : Prop := ∀ (W : WX) (σ : L2.St) (ρ1 ρ2 : Zn) (H1 H2 : Hp) (ro w r v1 : List D) (a : Addr) (vs : List V) (Q : VK), RepS C ρ1 H1 v1 → Ext ρ1 ⟨ρ2.r, ρ1.h⟩ H1 H2 → ρ2.h = a :: ρ1.h → RepS C ρ2 H2 (ro ++ w) → H1 a = none → H2 a = some (.lst vs) → Reps C ρ2 H2 r vs →
  AfterR C (Rep C) W σ ρ1 H1 ro (k r ro w) Q → Q (.ref a) H2
theorem kStill_ok {C : Cfg} : KOk C kStill := fun W σ ρ1 ρ2 H1 H2 ro w r v1 a vs Q s1 x hh s ha e hr q => by
  obtain ⟨xe, se⟩ := hide_end s hh
  exact q (.ref a) _ H2 x se ⟨a, vs, rfl, .inl ⟨⟨(s.hid a (by rw [hh]; exact List.mem_cons_self)).1, (s1.fresh ha).2⟩, .inl e⟩, Reps.extR xe r hr⟩
theorem tE_comp {k : List D → M D} (hk : KOk (cfg X) k) (ht : ∀ i ∈ t.slots, i ∈ own.map (·.2)) {σ : L2.St} {H : Hp} {Q : VK} (q : tE (cfg X) W (cComp t (own.map (·.2)) it tt f k) σ H Q) :
    tLc (tI (cfg X) W it) (t.g X.K) (tT (cfg X) W0 tt) (tE (cfg X) W0 f) (own.map (·.2)) σ H Q := by
  obtain ⟨ρ, env, ro, w, hS, hE, q⟩ := q
  unfold cComp few at q
  unfold M.bind at q
  refine ⟨ρ, env, ro, w, hS, hE, ?_⟩
  cases ei : it env ro w with
  | no =>
    simp only [M.bind, ei] at q
    exact q
  | exn c ns xs w1 =>
    simp only [M.bind, ei] at q
    exact q
  | ok ds w1 =>
    simp only [M.bind, ei] at q
    by_cases hn : ds.length ≤ sizeLine
    · simp only [if_pos hn] at q
      intro J ρ1 H1 x1 s1 walk D0 hD
      rcases compR_never (t := t) (tt := tt) (f := f) (env := wipeE env (own.map (·.2))) (ro := ro) ds (w := w1) with ⟨r, wf, hr⟩ | hr
      · simp only [hr] at q
        exact lc_ok (C := cfg X) ht hn walk s1 (hE.ext x1) hD hr fun ρ2 H2 vs x2 hh s2 e2 r2 => hk W σ ρ1 ρ2 H1 H2 ro wf r _ D0 vs Q s1 x2 hh s2 hD e2 r2 (AfterR.ext x1 q)
      · simp only [hr] at q
        exact (show False from q).elim
    · simp only [if_neg hn] at q
      exact (show False from q).elim
theorem pf_lc {k : List D → M D} (hk : KOk (cfg X) k) (ht : ∀ i ∈ t.slots, i ∈ own.map (·.2)) (hc : X.calm = true) (hN : X.N.Nodup) (hi : PI X tg iter (tI (cfg X) W it)) (ok : BlkOk X.N X.env.scope scope own)
    (hg : ∀ (s : Shared) (H : Hp) (C : Addr) (cl : List (Str × Addr)) (fp : List Addr), PG (X.blk s H scope (compEnvC scope cl C X.env) fp) tg (t.g X.K)) (hq : ∀ (s : Shared) (H : Hp) (C : Addr) (cl : List (Str × Addr)) (fp : List Addr), PTs (X.blk s H scope (compEnvC scope cl C X.env) fp) ifs (tT (cfg X) W0 tt))
    (he : ∀ (s : Shared) (H : Hp) (C : Addr) (cl : List (Str × Addr)) (fp : List Addr), PE (X.blk s H scope (compEnvC scope cl C X.env) fp) elt (tE (cfg X) W0 f)) (hs : ∀ x, foldedSetIterable iter X.env x = pure x := by intro _; rfl) :
    PE X (.ListComp elt [⟨tg, iter, ifs, 0⟩] scope pos) (tE (cfg X) W (cComp t (own.map (·.2)) it tt f k)) := pe_imp (pe_lc hc hN hi ok hg hq he hs) fun _ _ _ q => tE_comp hk ht q
theorem f_setLc {k : List D → M D} (i : Nat) {y : Str} {py : Pos} (hk : KOk (cfg X) k) (ht : ∀ i ∈ t.slots, i ∈ own.map (·.2)) (hc : X.calm = true) (hN : X.N.Nodup) (hsw : swapsWith (.ListComp elt [⟨tg, iter, ifs, 0⟩] scope pos) (some (.Name y py)) pos'.line X.env = pure true) (hi : PI X tg iter (tI (cfg X) W it)) (ok : BlkOk X.N X.env.scope scope own)
    (hg : ∀ (s : Shared) (H : Hp) (C : Addr) (cl : List (Str × Addr)) (fp : List Addr), PG (X.blk s H scope (compEnvC scope cl C X.env) fp) tg (t.g X.K)) (hq : ∀ (s : Shared) (H : Hp) (C : Addr) (cl : List (Str × Addr)) (fp : List Addr), PTs (X.blk s H scope (compEnvC scope cl C X.env) fp) ifs (tT (cfg X) W0 tt))
    (he : ∀ (s : Shared) (H : Hp) (C : Addr) (cl : List (Str × Addr)) (fp : List Addr), PE (X.blk s H scope (compEnvC scope cl C X.env) fp) elt (tE (cfg X) W0 f)) (hs : ∀ x, foldedSetIterable iter X.env x = pure x := by intro _; rfl) (hy : X.N[i]? = some y := by rfl) (hyl : X.env.scope.names.lookup y = some .local := by rfl) :
    PS X (.Assign [.Name y py] (.ListComp elt [⟨tg, iter, ifs, 0⟩] scope pos) pos') (tS (cfg X) W (sSet i (cComp t (own.map (·.2)) it tt f k))) := ps_imp (ps_setLc hc hN hy hyl hsw hi ok hg hq he hs) fun D σ H ⟨ρ, env, ro, w, hS, hE, q⟩ => by
  refine tE_comp hk ht ?_
  exact tS_seq hS hE q fun d w1 v ρ1 H1 x1 s1 e1 r1 q1 => q1 _ ρ1 H1 .refl s1 (e1.set r1)
theorem fts_nil {C : Cfg} : PTs X [] (tT C W cYes) := ⟨fun pins s σ H Q I q => pts_nil.run pins s σ H Q I (by
  obtain ⟨ρ, env, ro, w, hS, hE, q⟩ := q
  exact q true ρ H .refl hS rfl)⟩
theorem fts_one {C : Cfg} {c : Expr} (h : PT X c (tT C W tt)) : PTs X [c] (tT C W tt) := pts_one h
end
end Fx
namespace Fx
open PySem PySem.Spec L2

/-! ### a def's promise -/
def spF (C : Cfg) (g : List D → M D) (n : Nat) : Sp := fun vs H Q E => ∃ ρ ds ro w, vs.length = n ∧ RepS C ρ H (ro ++ w) ∧ Reps C ρ H ds vs ∧ AfterR C (Rep C) (fun c d _ H => E c d H) [] ρ H ro (g ds ro w) Q
/-- a def of the top, by its name, keeps it with n calls -/
structure CallOk (P : Program) (w : World) (K : PySem.W.Frag) (mg : Str → Option Value) (base : Heap) (n : Nat) (x : Str) (g : List D → M D) (np : Nat) : Prop where
  ex : ∃ a fd ps, mg x = some (.ref a) ∧ PySem.W.keepIn K (.ref a) = true ∧ Binds K fd ps [] ∧ ps.length = np ∧ FnOk P w K mg base (L2.CX P w) n a fd ps (spF ⟨K, mg, w⟩ g np)
abbrev CallX (X : Cx) (n : Nat) (x : Str) (g : List D → M D) (np : Nat) : Prop := CallOk X.prog X.w X.K X.mg X.base n x g np
/-- what is raised in a call is what this place wishes -/
abbrev PassW (X : Cx) (W : WX) : Prop := ∀ σ, PassesAt (L2.CX X.prog X.w) X σ (WE W σ)
theorem pass_of {X : Cx} {W : WX} (tk : Takes X W) : PassW X W := fun σ => passAt tk σ
theorem pass_0 {X : Cx} : PassW X W0 := fun σ _ _ _ _ _ _ h => by
  obtain ⟨_, _, _, _, _, _, _, _, _, _, _, _, z⟩ := h
  exact (show False from z).elim
section
variable {X : Cx} {W : WX} {pos p : Pos} {e : Expr} {es : List Expr} {x : Str} {g : List D → M D} {np n : Nat} {fs : Env → M (List D)}
theorem AfterR.sig {α β : Type} {C : Cfg} {R : Zn → Hp → α → β → Prop} {W : WX} {σ : L2.St} {ρ : Zn} {H : Hp} {ro : List D} {o : Out α} {Q : β → Hp → Prop} (h : AfterR C R W σ ρ H ro o Q) : AfterR C R (fun c d _ H => W c d σ H) [] ρ H ro o Q := by
  cases o with
  | ok d w => exact h
  | exn c ns xs w => exact h
  | no => exact h
theorem pf_call (F : CallX X n x g np) (hr : Room n X.A) (hx : PassW X W) (hg : Gl X x) (ha : PA X (e :: es) (tA (cfg X) W fs)) (hdb : (x == ("__debug__" : Str)) = false := by decide) (hl : ∀ ds : List D, ds.length = np → True := by intros; trivial)
    (he : starEach (e :: es) X.env = (false, eval e X.env) :: starEach es X.env := by rfl) (hpl : (backTo pos (starEach es X.env)).any (·.1) = false := by rfl) : PE X (.Call (.Name x p) (e :: es) [] pos) (tE (cfg X) W (cCall (fun ds => if ds.length = np then g ds else M.no) fs)) := by
  obtain ⟨a, fd, ps, hm, hk, hb, hps, ok⟩ := F.ex
  refine pe_imp (pe_callS ok hr hg hm hk hb hx ha hdb he hpl) fun σ H Q ⟨ρ, env, ro, w, hS, hE, q⟩ => ?_
  refine tR_seq hS hE q fun ds w1 vs ρ1 H1 x1 s1 r1 q1 => ?_
  by_cases c : ds.length = np
  · rw [if_pos c] at q1
    exact ⟨ρ1, ds, ro, w1, by rw [← r1.len]; exact c, s1, r1, q1.sig⟩
  · rw [if_neg c] at q1
    exact (show False from q1).elim
def cCall0 (g : List D → M D) : EF := fun _ => g []
theorem pf_call0 (F : CallX X n x g 0) (hr : Room n X.A) (hx : PassW X W) (hg : Gl X x) (hdb : (x == ("__debug__" : Str)) = false := by decide) : PE X (.Call (.Name x p) [] [] pos) (tE (cfg X) W (cCall0 g)) := by
  obtain ⟨a, fd, ps, hm, hk, hb, hps, ok⟩ := F.ex
  refine ⟨fun pins s σ H Q I ⟨ρ, env, ro, w, hS, hE, q⟩ => ?_⟩
  refine wpAny_Call_Name_kw (ld_glob I hg hm ?_ hdb)
  exact PySem.W.callWith_K0 I.kIn hk (run_fnS (us := []) ok hr hb (hx σ) I .nil ⟨ρ, [], ro, w, rfl, hS, rfl, q.sig⟩)
end

/-! ### a def by its body -/
def runDef (np N : Nat) (body : SF) : List D → M D := fun ds ro w => if ds.length = np then (match body (ds.map some ++ List.replicate (N - np) none) ro w with
  | .go .nx _ w' => .ok .non w'
  | .go (.rt d) _ w' => .ok d w'
  | .exn c ns xs _ w' => .exn c ns xs w'
  | _ => .no) else .no
theorem reps_start {C : Cfg} {ρ : Zn} {H : Hp} {N : List Str} {ds : List D} {vs : List V} (r : Reps C ρ H ds vs) : RepE C ρ H (ds.map some ++ List.replicate (N.length - ds.length) none) (L2.start N vs) := by
  unfold L2.start
  refine ⟨by simp [r.len], fun i d e => ?_⟩
  by_cases hi : i < ds.length
  · rw [List.getElem?_append_left (by simpa using hi), List.getElem?_map] at e
    cases q : ds[i]? with
    | none =>
      rw [q] at e
      cases e
    | some d' =>
      rw [q] at e
      cases e
      obtain ⟨v, h1, h2⟩ := r.get q
      have hv := (List.getElem?_eq_some_iff.mp h1).1
      exact ⟨v, by rw [List.getElem?_append_left (by simpa using hv), List.getElem?_map, h1]; rfl, h2⟩
  · rw [List.getElem?_append_right (by simpa using hi), List.getElem?_replicate] at e
    split at e <;> cases e
section
variable {P : Program} {w : World} {K : PySem.W.Frag} {mg : Str → Option Value} {base : Heap}
theorem def_ok {x qual : Str} {st : Stmt} {f : Addr} {fd : FuncData} {N ps : List Str} {k : Nat} {body : SF} (F : Fun K x qual st f fd) (S : FnScope N ps (defScope st))
    (h : ∀ (cdv : Value) (A : Around) (outer : List PySem.Env) (s : Shared) (H : Hp) (E : XK), Room k (A.deeper (PyProof.Rows.envOfC qual (defScope st) s.heap.objs.size f cdv)) →
      PSs (cxOf (L2.CX P w) P w K mg base N qual (defScope st) f cdv A outer s H E) (defBody st) (tS ⟨K, mg, w⟩ (fun c d _ H => E c d H) body)) :
    FnOk P w K mg base (L2.CX P w) (k + 1) f fd ps (spF ⟨K, mg, w⟩ (runDef ps.length N.length body) ps.length) := by
  refine F.okX S (fun vs H Q E h => ?_) fun cdv A outer s H vs Q E hr hsp => ?_
  · obtain ⟨ρ, ds, ro, w, hl, _⟩ := h
    exact hl
  · refine ⟨_, h cdv A outer s H E hr, ?_⟩
    obtain ⟨ρ, ds, ro, wl, hl, hS, hR, q⟩ := hsp
    have hdl : ds.length = ps.length := by rw [hR.len]; exact hl
    refine ⟨ρ, ds.map some ++ List.replicate (N.length - ds.length) none, ro, wl, hS, reps_start hR, ?_⟩
    unfold runDef at q
    rw [if_pos hdl, ← hdl] at q
    cases e : body (ds.map some ++ List.replicate (N.length - ds.length) none) ro wl with
    | no =>
      rw [e] at q
      exact q
    | exn c ns xs env w' =>
      rw [e] at q
      exact fun cls dx σ' ρ' H' x s e2 rx => q cls dx ρ' H' x s rx
    | go fl env w' =>
      rw [e] at q
      cases fl with
      | nx => exact fun σ' ρ' H' x s e2 => q .non ρ' H' x s rfl
      | rt d => exact fun v ρ' H' x s r => q v ρ' H' x s r
      | bk => exact (show False from q).elim
      | ct => exact (show False from q).elim
/-- nothing is promised -/
theorem no_ok {f : Addr} {fd : FuncData} {ps : List Str} {k : Nat} : FnOk P w K mg base (L2.CX P w) k f fd ps (spF ⟨K, mg, w⟩ (fun _ => M.no) ps.length) := by
  have no : ∀ vs H Q E, ¬ spF ⟨K, mg, w⟩ (fun _ => M.no) ps.length vs H Q E := fun vs H Q E h => by
    obtain ⟨ρ, ds, ro, w, _, _, _, q⟩ := h
    exact q
  exact ⟨fun vs H Q E h => absurd h (no vs H Q E), fun A outer s H args us vs Q E _ _ _ _ h => absurd h (no vs H Q E)⟩
end

/-! ### things that end with a call -/
mutual
/-- the changing objects told by φ -/
def D.tell (φ : Nat → Option D) : D → Option D
  | .ref n => φ n
  | .tup ds => (D.tells φ ds).map .tup
  | .lst ds => (D.tells φ ds).map .lst
  | .dic ks ds => (D.tells φ ds).map (.dic ks)
  | .dct ks ds => (D.tells φ ds).map (.dct ks)
  | .ins c ns ds => (D.tells φ ds).map (.ins c ns)
  | d => some d
def D.tells (φ : Nat → Option D) : List D → Option (List D)
  | [] => some []
  | d :: ds => match D.tell φ d, D.tells φ ds with
    | some d', some ds' => some (d' :: ds')
    | _, _ => none
end
/-- n: how many objects the caller has; w: the own ones -/
def told (n : Nat) (w : List D) : Nat → Nat → Option D
  | 0, m => if m < n then some (.ref m) else none
  | k + 1, m => if m < n then some (.ref m) else match w[m - n]? with
    | some o => D.tell (told n w k) o
    | none => none
mutual
def D.under (n : Nat) : D → Bool
  | .ref m => decide (m < n)
  | .tup ds => D.unders n ds
  | .lst ds => D.unders n ds
  | .dic _ ds => D.unders n ds
  | .dct _ ds => D.unders n ds
  | .ins _ _ ds => D.unders n ds
  | _ => true
def D.unders (n : Nat) : List D → Bool
  | [] => true
  | d :: ds => D.under n d && D.unders n ds
end
section
variable {C : Cfg} {ρ ρ' : Zn} {H H' : Hp} {n : Nat}
abbrev Zn.take (ρ : Zn) (n : Nat) : Zn := ⟨ρ.r.take n, ρ.h⟩
theorem Out.take {a : Addr} (h : ρ.Out a) : (ρ.take n).Out a := ⟨fun z => h.1 (List.mem_of_mem_take z), h.2⟩
theorem Still.take {a : Addr} {u : HO} (h : Still ρ H a u) : Still (ρ.take n) H a u := ⟨Out.take h.1, h.2⟩
mutual
/-- what is a key holds nothing that changes -/
theorem Rep.ktrunc : ∀ (d : D) {v : V} {κ : NestedKey}, toKey d = some κ → Rep C ρ H d v → Rep C (ρ.take n) H d v
  | .int _, v, κ, _, h => h
  | .str _, v, κ, _, h => h
  | .tup ds, v, κ, e, ⟨a, vs, e1, h1, r⟩ => by
    unfold toKey at e
    cases q : toKeys ds with
    | none => rw [q] at e; cases e
    | some ks => exact ⟨a, vs, e1, h1.imp Still.take id, Reps.ktrunc ds q r⟩
  | .non, v, κ, e, _ => by cases e
  | .bl _, v, κ, e, _ => by cases e
  | .fn _, v, κ, e, _ => by cases e
  | .rng _, v, κ, e, _ => by cases e
  | .ref _, v, κ, e, _ => by cases e
  | .lst _, v, κ, e, _ => by cases e
  | .dic _ _, v, κ, e, _ => by cases e
  | .dct _ _, v, κ, e, _ => by cases e
  | .ins _ _ _, v, κ, e, _ => by cases e
theorem Reps.ktrunc : ∀ (ds : List D) {vs : List V} {ks : List NestedKey}, toKeys ds = some ks → Reps C ρ H ds vs → Reps C (ρ.take n) H ds vs
  | [], vs, ks, _, h => h
  | d :: ds, vs, ks, e, ⟨v, r, ev, h1, h2⟩ => by
    unfold toKeys at e
    cases q1 : toKey d with
    | none => simp only [q1] at e; cases e
    | some d1 =>
      cases q2 : toKeys ds with
      | none => simp only [q1, q2] at e; cases e
      | some ds2 => exact ⟨v, r, ev, Rep.ktrunc d q1 h1, Reps.ktrunc ds q2 h2⟩
end
theorem DEnts.trunc {w : World} {es : List DictEntry} {ks : List D} {as : List Addr} {vs : List V} (en : DEnts w es ks as vs) : Reps C ρ H ks (as.map .ref) → Reps C (ρ.take n) H ks (as.map .ref) := by
  induction en with
  | nil => exact id
  | cons h1 _ _ _ _ _ ih =>
    rintro ⟨v, r, ev, k1, k2⟩
    simp only [List.map_cons, List.cons.injEq] at ev
    obtain ⟨e1, e2⟩ := ev
    subst e1 e2
    exact ⟨_, _, rfl, Rep.ktrunc _ h1 k1, ih k2⟩
mutual
theorem Rep.tell {φ : Nat → Option D} (hφ : ∀ m d v, φ m = some d → Rep C ρ H (.ref m) v → Rep C (ρ.take n) H d v) : ∀ (d : D) {d' : D} {v : V}, D.tell φ d = some d' → Rep C ρ H d v → Rep C (ρ.take n) H d' v
  | .non, d', v, e, h => by cases e; exact h
  | .bl b, d', v, e, h => by cases e; exact h
  | .int b, d', v, e, h => by cases e; exact h
  | .str b, d', v, e, h => by cases e; exact h
  | .fn b, d', v, e, h => by cases e; exact h
  | .rng b, d', v, e, h => by
    cases e
    obtain ⟨a, e1, h1⟩ := h
    exact ⟨a, e1, Still.take h1⟩
  | .ref m, d', v, e, h => hφ m d' v e h
  | .tup ds, d', v, e, h => by
    unfold D.tell at e
    cases q : D.tells φ ds with
    | none => rw [q] at e; cases e
    | some ds' =>
      rw [q] at e
      cases e
      obtain ⟨a, vs, e1, h1, r⟩ := h
      exact ⟨a, vs, e1, h1.imp Still.take id, Reps.tell hφ ds q r⟩
  | .lst ds, d', v, e, h => by
    unfold D.tell at e
    cases q : D.tells φ ds with
    | none => rw [q] at e; cases e
    | some ds' =>
      rw [q] at e
      cases e
      obtain ⟨a, vs, e1, h1, r⟩ := h
      exact ⟨a, vs, e1, h1.imp Still.take id, Reps.tell hφ ds q r⟩
  | .dic ks ds, d', v, e, h => by
    unfold D.tell at e
    cases q : D.tells φ ds with
    | none => rw [q] at e; cases e
    | some ds' =>
      rw [q] at e
      cases e
      obtain ⟨a, kvs, e1, h1, k, r⟩ := h
      exact ⟨a, kvs, e1, Still.take h1, k, Reps.tell hφ ds q r⟩
  | .dct ks ds, d', v, e, h => by
    unfold D.tell at e
    cases q : D.tells φ ds with
    | none => rw [q] at e; cases e
    | some ds' =>
      rw [q] at e
      cases e
      obtain ⟨a, es, ep, as, vs, e1, h1, en, nd, rk, r⟩ := h
      exact ⟨a, es, ep, as, vs, e1, Still.take h1, en, nd, en.trunc rk, Reps.tell hφ ds q r⟩
  | .ins c ns ds, d', v, e, h => by
    unfold D.tell at e
    cases q : D.tells φ ds with
    | none => rw [q] at e; cases e
    | some ds' =>
      rw [q] at e
      cases e
      obtain ⟨a, A, dx, fs, e1, m, nn, h1, k, r⟩ := h
      exact ⟨a, A, dx, fs, e1, m, Out.take nn, h1, k, Reps.tell hφ ds q r⟩
theorem Reps.tell {φ : Nat → Option D} (hφ : ∀ m d v, φ m = some d → Rep C ρ H (.ref m) v → Rep C (ρ.take n) H d v) : ∀ (ds : List D) {ds' : List D} {vs : List V}, D.tells φ ds = some ds' → Reps C ρ H ds vs → Reps C (ρ.take n) H ds' vs
  | [], ds', vs, e, h => by cases e; exact h
  | d :: ds, ds', vs, e, ⟨v, r, ev, h1, h2⟩ => by
    unfold D.tells at e
    cases q1 : D.tell φ d with
    | none => simp only [q1] at e; cases e
    | some d1 =>
      cases q2 : D.tells φ ds with
      | none => simp only [q1, q2] at e; cases e
      | some ds2 =>
        simp only [q1, q2] at e
        cases e
        exact ⟨v, r, ev, Rep.tell hφ d q1 h1, Reps.tell hφ ds q2 h2⟩
end
mutual
theorem Rep.below : ∀ (d : D) {v : V}, Rep C ρ H d v → D.under ρ.r.length d = true
  | .non, v, h => rfl
  | .bl b, v, h => rfl
  | .int b, v, h => rfl
  | .str b, v, h => rfl
  | .fn b, v, h => rfl
  | .rng b, v, h => rfl
  | .ref m, v, ⟨a, e, _⟩ => decide_eq_true (List.getElem?_eq_some_iff.mp e).1
  | .tup ds, v, ⟨a, vs, _, _, r⟩ => Reps.below ds r
  | .lst ds, v, ⟨a, vs, _, _, r⟩ => Reps.below ds r
  | .dic ks ds, v, ⟨a, kvs, _, _, _, r⟩ => Reps.below ds r
  | .dct ks ds, v, ⟨a, es, ep, as, vs, _, _, _, _, _, r⟩ => Reps.below ds r
  | .ins c ns ds, v, ⟨a, A, dx, fs, _, _, _, _, _, r⟩ => Reps.below ds r
theorem Reps.below : ∀ (ds : List D) {vs : List V}, Reps C ρ H ds vs → D.unders ρ.r.length ds = true
  | [], vs, h => rfl
  | d :: ds, vs, ⟨v, r, _, h1, h2⟩ => by
    unfold D.unders
    rw [Rep.below d h1, Reps.below ds h2]
    rfl
end
mutual
theorem Rep.trunc : ∀ (d : D) {v : V}, D.under n d = true → Rep C ρ H d v → Rep C (ρ.take n) H d v
  | .non, v, _, h => h
  | .bl b, v, _, h => h
  | .int b, v, _, h => h
  | .str b, v, _, h => h
  | .fn b, v, _, h => h
  | .rng b, v, _, ⟨a, e, h⟩ => ⟨a, e, Still.take h⟩
  | .ref m, v, b, ⟨a, e, e2⟩ => ⟨a, by
    show (ρ.r.take n)[m]? = _
    rw [List.getElem?_take_of_lt (of_decide_eq_true b)]
    exact e, e2⟩
  | .tup ds, v, b, ⟨a, vs, e, h, r⟩ => ⟨a, vs, e, h.imp Still.take id, Reps.trunc ds b r⟩
  | .lst ds, v, b, ⟨a, vs, e, h, r⟩ => ⟨a, vs, e, h.imp Still.take id, Reps.trunc ds b r⟩
  | .dic ks ds, v, b, ⟨a, kvs, e, h, k, r⟩ => ⟨a, kvs, e, Still.take h, k, Reps.trunc ds b r⟩
  | .dct ks ds, v, b, ⟨a, es, ep, as, vs, e, h, en, nd, rk, r⟩ => ⟨a, es, ep, as, vs, e, Still.take h, en, nd, en.trunc rk, Reps.trunc ds b r⟩
  | .ins c ns ds, v, b, ⟨a, A, dx, fs, e, m, nn, h, k, r⟩ => ⟨a, A, dx, fs, e, m, Out.take nn, h, k, Reps.trunc ds b r⟩
theorem Reps.trunc : ∀ (ds : List D) {vs : List V}, D.unders n ds = true → Reps C ρ H ds vs → Reps C (ρ.take n) H ds vs
  | [], vs, _, h => h
  | d :: ds, vs, b, ⟨v, r, e, h1, h2⟩ => by
    have b' : D.under n d = true ∧ D.unders n ds = true := by simpa [D.unders] using b
    exact ⟨v, r, e, Rep.trunc d b'.1 h1, Reps.trunc ds b'.2 h2⟩
end
theorem RepO.below {d : D} {a : Addr} (h : RepO C ρ H d a) : D.under ρ.r.length d = true := by
  cases d with
  | lst ds => obtain ⟨vs, _, r⟩ := h; exact Reps.below ds r
  | dic ks ds => obtain ⟨vs, _, _, r⟩ := h; exact Reps.below ds r
  | dct ks ds => obtain ⟨es, ep, as, vs, _, _, _, _, r⟩ := h; exact Reps.below ds r
  | ins c ns ds => obtain ⟨A, dx, fs, _, _, _, r⟩ := h; exact Reps.below ds r
  | _ => exact (show False from h).elim
theorem RepO.trunc {d : D} {a : Addr} (b : D.under n d = true) (h : RepO C ρ H d a) : RepO C (ρ.take n) H d a := by
  cases d with
  | lst ds => obtain ⟨vs, e, r⟩ := h; exact ⟨vs, e, Reps.trunc ds b r⟩
  | dic ks ds => obtain ⟨vs, e, k, r⟩ := h; exact ⟨vs, e, k, Reps.trunc ds b r⟩
  | dct ks ds => obtain ⟨es, ep, as, vs, e, en, nd, rk, r⟩ := h; exact ⟨es, ep, as, vs, e, en, nd, en.trunc rk, Reps.trunc ds b r⟩
  | ins c ns ds => obtain ⟨A, dx, fs, m, e, k, r⟩ := h; exact ⟨A, dx, fs, m, e, k, Reps.trunc ds b r⟩
  | _ => exact (show False from h).elim
theorem RepS.take {w : List D} (hS : RepS C ρ H w) (hb : ∀ i d, i < n → w[i]? = some d → D.under n d = true) : RepS C (ρ.take n) H (w.take n) := by
  refine ⟨by simp [hS.len], hS.nd.sublist (List.take_sublist _ _), fun i a d h1 h2 => ?_, fun a ha => ⟨fun z => (hS.hid a ha).1 (List.mem_of_mem_take z), (hS.hid a ha).2⟩⟩
  have hi : i < n := by
    have := (List.getElem?_eq_some_iff.mp h2).1
    rw [List.length_take] at this
    omega
  replace h1 : (ρ.r.take n)[i]? = some a := h1
  rw [List.getElem?_take_of_lt hi] at h1 h2
  exact RepO.trunc (hb i d hi h2) (hS.obj i a d h1 h2)
theorem told_ok {ro w : List D} (hS : RepS C ρ H (ro ++ w)) : ∀ (k m : Nat) (d : D) (v : V), told ro.length w k m = some d → Rep C ρ H (.ref m) v → Rep C (ρ.take ro.length) H d v
  | 0, m, d, v, e, h => by
    unfold told at e
    by_cases c : m < ro.length
    · rw [if_pos c] at e
      cases e
      exact Rep.trunc (.ref m) (decide_eq_true c) h
    · rw [if_neg c] at e
      cases e
  | k + 1, m, d, v, e, h => by
    unfold told at e
    by_cases c : m < ro.length
    · rw [if_pos c] at e
      cases e
      exact Rep.trunc (.ref m) (decide_eq_true c) h
    · rw [if_neg c] at e
      cases q : w[m - ro.length]? with
      | none => rw [q] at e; cases e
      | some o =>
        rw [q] at e
        obtain ⟨a, ha, rfl⟩ := h
        have hm : (ro ++ w)[m]? = some o := by
          rw [List.getElem?_append_right (by omega)]
          exact q
        have hO := hS.obj m a o ha hm
        have an : (ρ.take ro.length).Out a := by
          refine ⟨fun z => ?_, fun z => (hS.hid a z).1 (List.mem_of_getElem? ha)⟩
          obtain ⟨j, hj, ej⟩ := List.mem_iff_getElem.mp z
          rw [List.length_take] at hj
          rw [List.getElem_take] at ej
          obtain ⟨hm', em⟩ := List.getElem?_eq_some_iff.mp ha
          have := (List.getElem_inj hS.nd).mp (ej.trans em.symm)
          omega
        cases o with
        | lst ds =>
          replace e : D.tell (told ro.length w k) (.lst ds) = some d := e
          unfold D.tell at e
          cases q2 : D.tells (told ro.length w k) ds with
          | none => rw [q2] at e; cases e
          | some ds' =>
            rw [q2] at e
            cases e
            obtain ⟨vs, e1, r⟩ := hO
            exact ⟨a, vs, rfl, .inl ⟨an, .inl e1⟩, Reps.tell (told_ok hS k) ds q2 r⟩
        | dic ks ds =>
          replace e : D.tell (told ro.length w k) (.dic ks ds) = some d := e
          unfold D.tell at e
          cases q2 : D.tells (told ro.length w k) ds with
          | none => rw [q2] at e; cases e
          | some ds' =>
            rw [q2] at e
            cases e
            obtain ⟨kvs, e1, kk, r⟩ := hO
            exact ⟨a, kvs, rfl, ⟨an, .inl e1⟩, kk, Reps.tell (told_ok hS k) ds q2 r⟩
        | dct ks ds =>
          replace e : D.tell (told ro.length w k) (.dct ks ds) = some d := e
          unfold D.tell at e
          cases q2 : D.tells (told ro.length w k) ds with
          | none => rw [q2] at e; cases e
          | some ds' =>
            rw [q2] at e
            cases e
            obtain ⟨es, ep, as, vs, e1, en, nd, rk, r⟩ := hO
            exact ⟨a, es, ep, as, vs, rfl, ⟨an, .inl e1⟩, en, nd, en.trunc rk, Reps.tell (told_ok hS k) ds q2 r⟩
        | ins c ns ds =>
          replace e : D.tell (told ro.length w k) (.ins c ns ds) = some d := e
          unfold D.tell at e
          cases q2 : D.tells (told ro.length w k) ds with
          | none => rw [q2] at e; cases e
          | some ds' =>
            rw [q2] at e
            cases e
            obtain ⟨A, dx, fs, mm, e1, kk, r⟩ := hO
            exact ⟨a, A, dx, fs, rfl, mm, an, e1, kk, Reps.tell (told_ok hS k) ds q2 r⟩
        | _ => exact (show False from hO).elim
end
/-- a def that changes nothing of its caller's: it sees them, and what it makes ends with it -/
def pureD (g : List D → M D) : List D → M D := fun ds ro w => match g ds (ro ++ w) [] with
  | .ok d w' => (match D.tell (told (ro ++ w).length w' 4) d with
    | some d' => .ok d' w
    | none => .no)
  | .exn c ns xs w' => (match D.tells (told (ro ++ w).length w' 4) xs with
    | some xs' => .exn c ns xs' w
    | none => .no)
  | .no => .no
section
variable {P : Program} {w : World} {K : PySem.W.Frag} {mg : Str → Option Value} {base : Heap}
theorem RepX.tell {C : Cfg} {ρ : Zn} {H : Hp} {n : Nat} {φ : Nat → Option D} (hφ : ∀ m d v, φ m = some d → Rep C ρ H (.ref m) v → Rep C (ρ.take n) H d v) {c : Str} {ns : List Str} {xs xs' : List D} {cls : Value} {dx : Option Addr} (e : D.tells φ xs = some xs') (h : RepX C ρ H c ns xs cls dx) : RepX C (ρ.take n) H c ns xs' cls dx := by
  obtain ⟨A, h1, h2, h3⟩ := h
  refine ⟨A, h1, h2, ?_⟩
  rcases h3 with ⟨e1, e2, e3⟩ | ⟨d, fs, e1, e0, e2, e3, e4, r⟩
  · subst e2
    cases e
    exact .inl ⟨e1, rfl, e3⟩
  · exact .inr ⟨d, fs, e1, e0, Out.take e2, e3, e4, Reps.tell hφ xs e r⟩
theorem pure_ok {f : Addr} {fd : FuncData} {ps : List Str} {k np : Nat} {g : List D → M D} (F : FnOk P w K mg base (L2.CX P w) k f fd ps (spF ⟨K, mg, w⟩ g np)) : FnOk P w K mg base (L2.CX P w) k f fd ps (spF ⟨K, mg, w⟩ (pureD g) np) := by
  refine F.imp fun vs H Q E ⟨ρ, ds, ro, v, hl, hS, hR, q⟩ => ⟨ρ, ds, ro ++ v, [], hl, by rw [List.append_nil]; exact hS, hR, ?_⟩
  have hlen : ρ.r.length = (ro ++ v).length := hS.len
  -- what stands behind, without the own objects
  have back : ∀ {ρ' : Zn} {H' : Hp} {w' : List D}, Ext ρ ρ' H H' → RepS ⟨K, mg, w⟩ ρ' H' ((ro ++ v) ++ w') → Ext ρ (ρ'.take (ro ++ v).length) H H' ∧ RepS ⟨K, mg, w⟩ (ρ'.take (ro ++ v).length) H' (ro ++ v) := by
    intro ρ' H' w' x s
    obtain ⟨⟨ν, p⟩, h1, k1, m1⟩ := x
    refine ⟨⟨⟨[], ?_⟩, h1, fun a o e n => ⟨(k1 a o e n).1, Out.take (k1 a o e n).2⟩, m1⟩, ?_⟩
    · show ρ'.r.take _ = _
      rw [p, ← hlen, List.take_left', List.append_nil]
      rfl
    · have z := RepS.take (n := (ro ++ v).length) s fun i d hi hd => ?_
      · rw [List.take_left'] at z
        · exact z
        · rfl
      · rw [List.getElem?_append_left hi] at hd
        have hr : i < ρ.r.length := by rw [hlen]; exact hi
        have := RepO.below (hS.obj i _ d (List.getElem?_eq_getElem hr) hd)
        rw [hlen] at this
        exact this
  unfold pureD at q
  cases e : g ds (ro ++ v) [] with
  | no =>
    simp only [e] at q
    exact q
  | ok d w' =>
    simp only [e] at q
    cases et : D.tell (told (ro ++ v).length w' 4) d with
    | none =>
      simp only [et] at q
      exact (show False from q).elim
    | some d' =>
      simp only [et] at q
      intro v ρ' H' x s r
      obtain ⟨x2, s2⟩ := back x s
      exact q v _ H' x2 s2 (Rep.tell (told_ok s 4) d et r)
  | exn c ns xs w' =>
    simp only [e] at q
    cases et : D.tells (told (ro ++ v).length w' 4) xs with
    | none =>
      simp only [et] at q
      exact (show False from q).elim
    | some xs' =>
      simp only [et] at q
      intro cls dx ρ' H' x s r
      obtain ⟨x2, s2⟩ := back x s
      exact q cls dx _ H' x2 s2 (RepX.tell (told_ok s 4) et r)
end
end Fx
namespace Fx
open PySem PySem.Spec L2

/-! ### in, not in -/
def D.sc : D → Bool
  | .non => true | .bl _ => true | .int _ => true | .str _ => true
  | _ => false
def D.eqs : D → D → Bool
  | .non, .non => true
  | .bl a, .bl b => a == b
  | .bl a, .int b => (if a then 1 else 0) == b
  | .int a, .bl b => a == (if b then 1 else 0)
  | .int a, .int b => a == b
  | .str a, .str b => a == b
  | _, _ => false
section
variable {C : Cfg} {ρ : Zn} {H : Hp}
theorem Rep.sc {d : D} {v : V} (h : d.sc = true) (r : Rep C ρ H d v) : flatV v = true := by
  cases d with
  | non => rw [show v = .non from r]; rfl
  | bl b => rw [show v = .bl b from r]; rfl
  | int b => rw [show v = .int b from r]; rfl
  | str b => rw [show v = .str b from r]; rfl
  | _ => cases h
theorem Rep.eqs {d e : D} {v u : V} (h : d.sc = true) (h' : e.sc = true) (r : Rep C ρ H d v) (r' : Rep C ρ H e u) : eqV v u = d.eqs e := by
  cases d with
  | non =>
    rw [show v = .non from r]
    cases e with
    | non => rw [show u = .non from r']; rfl
    | bl b => rw [show u = .bl b from r']; rfl
    | int b => rw [show u = .int b from r']; rfl
    | str b => rw [show u = .str b from r']; rfl
    | _ => cases h'
  | bl b =>
    rw [show v = .bl b from r]
    cases e with
    | non => rw [show u = .non from r']; rfl
    | bl b => rw [show u = .bl b from r']; rfl
    | int b => rw [show u = .int b from r']; rfl
    | str b => rw [show u = .str b from r']; rfl
    | _ => cases h'
  | int b =>
    rw [show v = .int b from r]
    cases e with
    | non => rw [show u = .non from r']; rfl
    | bl b => rw [show u = .bl b from r']; rfl
    | int b => rw [show u = .int b from r']; rfl
    | str b => rw [show u = .str b from r']; rfl
    | _ => cases h'
  | str b =>
    rw [show v = .str b from r]
    cases e with
    | non => rw [show u = .non from r']; rfl
    | bl b => rw [show u = .bl b from r']; rfl
    | int b => rw [show u = .int b from r']; rfl
    | str b => rw [show u = .str b from r']; rfl
    | _ => cases h'
  | _ => cases h
theorem Reps.sc : ∀ {ds : List D} {vs : List V}, ds.all D.sc = true → Reps C ρ H ds vs → vs.all flatV = true
  | [], vs, _, h => by
    cases (show vs = [] from h)
    rfl
  | d :: ds, vs, h, ⟨v, r, e, h1, h2⟩ => by
    subst e
    rw [List.all_cons, Bool.and_eq_true] at h ⊢
    exact ⟨Rep.sc h.1 h1, Reps.sc h.2 h2⟩
theorem Reps.inV {e : D} {u : V} (h' : e.sc = true) (r' : Rep C ρ H e u) : ∀ {ds : List D} {vs : List V}, ds.all D.sc = true → Reps C ρ H ds vs → L2.inV u vs = ds.any fun d => d.eqs e
  | [], vs, _, h => by
    cases (show vs = [] from h)
    rfl
  | d :: ds, vs, h, ⟨v, r, eq, h1, h2⟩ => by
    subst eq
    rw [List.all_cons, Bool.and_eq_true] at h
    unfold L2.inV
    rw [List.any_cons, List.any_cons, Rep.eqs h.1 h' h1 r']
    congr 1
    exact Reps.inV h' r' h.2 h2
end
def isSign (x : Str) : Option Nat := match x.cps.toList with
  | [c] => some c
  | _ => none
theorem isSign_eq {x : Str} {c : Nat} (h : isSign x = some c) : x = ⟨#[c]⟩ := by
  unfold isSign at h
  split at h
  · rename_i q
    cases h
    obtain ⟨a⟩ := x
    obtain ⟨l⟩ := a
    simp only at q
    subst q
    rfl
  · cases h
/-- x in y -/
def inD (x y : D) : Option Bool := match y with
  | .tup ds => if x.sc && ds.all D.sc then some (ds.any fun d => d.eqs x) else none
  | .lst ds => if x.sc && ds.all D.sc then some (ds.any fun d => d.eqs x) else if x.cmp && (D.lst ds).cmp then some (ds.any fun d => PyData.eqv d.py x.py) else none
  | .str z => match x with
    | .str c => match isSign c with
      | some k => some (decide (k ∈ z.cps.toList))
      | none => none
    | _ => none
  | _ => none
def gIn (x y : D) : M D := fun _ w => match inD x y with
  | some b => .ok (.bl b) w
  | none => .no
def gNotIn (x y : D) : M D := fun _ w => match inD x y with
  | some b => .ok (.bl (!b)) w
  | none => .no
def rInF (K : PySem.W.Frag) (neg : Bool) : R2 := fun x y H Q => rIn K neg x y H Q ∨ (if neg then rNotInD K x y H Q else rInD K x y H Q) ∨ (∃ (c : Nat) (z : Str), x = .str ⟨#[c]⟩ ∧ y = .str z ∧ Q (.bl (if neg then !decide (c ∈ z.cps.toList) else decide (c ∈ z.cps.toList))) H)
section
variable {X : Cx} {C : Cfg}
theorem opf_in (hu : X.A.units + 65 < cLine) : OpR X (compareOp .In) (rInF X.K false) := op_in_seq.or ((op_inD hu).or op_in_sign)
theorem opf_notIn (hu : X.A.units + 65 < cLine) : OpR X (compareOp .NotIn) (rInF X.K true) := op_notIn_seq.or ((op_notInD hu).or op_notIn_sign)
theorem any_pys {x : D} : ∀ ds : List D, (D.pys ds).any (fun z => PyData.eqv z x.py) = ds.any fun d => PyData.eqv d.py x.py
  | [] => rfl
  | d :: ds => by
    show (d.py :: D.pys ds).any _ = _
    rw [List.any_cons, List.any_cons, any_pys ds]
theorem in_core {ρ : Zn} {H : Hp} {d e : D} {x y : V} {b : Bool} (neg : Bool) {Q : VK} (hd : Seen C ρ H d x) (he : Seen C ρ H e y) (h : inD d e = some b) (q : Q (.bl (if neg then !b else b)) H) : rInF C.K neg x y H Q := by
  have scal : d.sc = true → Rep C ρ H d x := fun s => by
    rcases hd with h | ⟨a, _, h⟩
    · exact h
    · cases d <;> first | exact (show False from h).elim | cases s
  cases e with
  | tup ds =>
    unfold inD at h
    dsimp only at h
    by_cases c : (d.sc && ds.all D.sc) = true
    · rw [if_pos c] at h
      cases h
      rw [Bool.and_eq_true] at c
      obtain ⟨p, vs, rfl, hp, r⟩ := he.tup
      refine .inl ⟨p, vs, rfl, .inr hp, Rep.sc c.1 (scal c.1), r.sc c.2, ?_⟩
      rw [Reps.inV c.1 (scal c.1) c.2 r]
      exact q
    · rw [if_neg c] at h
      cases h
  | lst ds =>
    unfold inD at h
    dsimp only at h
    obtain ⟨p, vs, rfl, hp, r⟩ := he.lst
    by_cases c : (d.sc && ds.all D.sc) = true
    · rw [if_pos c] at h
      cases h
      rw [Bool.and_eq_true] at c
      refine .inl ⟨p, vs, rfl, .inl hp, Rep.sc c.1 (scal c.1), r.sc c.2, ?_⟩
      rw [Reps.inV c.1 (scal c.1) c.2 r]
      exact q
    · rw [if_neg c] at h
      by_cases c2 : (d.cmp && (D.lst ds).cmp) = true
      · rw [if_pos c2] at h
        cases h
        rw [Bool.and_eq_true] at c2
        obtain ⟨f1, s1⟩ := Bool.and_eq_true_iff.mp c2.1
        obtain ⟨f2, s2⟩ := Bool.and_eq_true_iff.mp c2.2
        have h2 : Dp C.K H (.ref p) (.list (D.pys ds)) := .lst hp (Reps.dp ds (by simpa [D.flat] using f2) r)
        rw [← any_pys] at q
        cases neg with
        | false => exact .inr (.inl (by rw [if_neg Bool.false_ne_true]; exact ⟨d.py, D.pys ds, hd.dp f1, h2, s1, s2, q⟩))
        | true => exact .inr (.inl (by rw [if_pos rfl]; exact ⟨d.py, D.pys ds, hd.dp f1, h2, s1, s2, q⟩))
      · rw [if_neg c2] at h
        cases h
  | str z =>
    cases d with
    | str k =>
      unfold inD at h
      dsimp only at h
      cases hk : isSign k with
      | none =>
        rw [hk] at h
        cases h
      | some c =>
        rw [hk] at h
        cases h
        exact .inr (.inr ⟨c, z, by rw [hd.str, isSign_eq hk], he.str, q⟩)
    | _ => cases h
  | _ => cases h
theorem ok2_in : Ok2 C (rInF C.K false) gIn := by
  intro W σ ρ H ro w d e x y Q hS hd he q
  unfold gIn at q
  cases h : inD d e with
  | none =>
    rw [h] at q
    exact (show False from q).elim
  | some b =>
    rw [h] at q
    exact in_core false hd he h (ok_bl hS q)
theorem ok2_notIn : Ok2 C (rInF C.K true) gNotIn := by
  intro W σ ρ H ro w d e x y Q hS hd he q
  unfold gNotIn at q
  cases h : inD d e with
  | none =>
    rw [h] at q
    exact (show False from q).elim
  | some b =>
    rw [h] at q
    exact in_core true hd he h (ok_bl hS q)
theorem hu65 {k : Nat} {A : Around} (r : Room k A) : A.units + 65 < cLine := by
  have := r.un
  omega
end

/-! ### reversed(list) -/
section
variable {X : Cx} {W : WX} {pos p : Pos} {e tg : Expr} {fs : Env → M (List D)}
def gRev : List D → M (List D)
  | [.lst ds] => M.pure ds.reverse
  | _ => M.no
def cRev (fs : Env → M (List D)) : Env → M (List D) := fun env => M.bind (fs env) gRev
end
end Fx
namespace Fx
open PySem PySem.Spec L2

/-- the end of a law's row: what the law's function gives -/
theorem law_end {l : PySem.W.OpenLaw} {q : Program} {loose : List Str} {XP : (Str → Option Value) → Heap → Prop} {YP : World → Heap → Prop} {d : DefRec} {K : Params → PySem.W.Frag} {x : Str} {N : Nat} {g : List D → M D}
    (hn : l.most = some 63) (hdf : d.params.defaults = []) (hr : Room N callerA)
    (hY : ∀ (w : World) (h : Heap), YP w h → (K w.params).In h)
    (F : ∀ (w : World) (mg : Str → Option Value) (fa : Addr) (h : Heap), (K w.params).In h → h.Ns mainGlobals mg → mg d.name = some (.ref fa) →
      ∃ fd : FuncData, (∀ (s : Shared) (u : Value), BindsTo s fd ⟨[u], []⟩ [(x, u)]) ∧
        ∀ base : Heap, (K w.params).In base → base.Ns mainGlobals mg → FnOk l.prog w (K w.params) mg base (L2.CX l.prog w) N fa fd [x] (spF ⟨K w.params, mg, w⟩ g 1))
    (hlaw : ∀ ns : List Int, ns.length ≤ 63 → ∃ w', g [.lst (ns.map .int)] [] [] = .ok (.bl true) w') :
    PySem.W.WalkO q loose XP YP l.row.toRowW d [] (fun f vs => PySem.call f vs) := by
  refine L2.walk_of (n := 63) (k := N) (x := x) (CX := fun w => L2.CX l.prog w) (sp := fun w vs H Q _ => ∃ (a : Addr) (ns : List Int), vs = [.ref a] ∧ SqL (K w.params) H a (ns.map V.int) ∧ ns.length ≤ 63 ∧ ∀ H', Q (.bl true) H')
    hn (by decide) hdf hr hY (fun w mg fa h KX G hm => ?_) (fun w H a ns hl _ hS => ⟨a, ns, rfl, hS, hl, fun _ => rfl⟩) (fun w H s e s' h => ?_)
  · obtain ⟨fd, hb, hF⟩ := F w mg fa h KX G hm
    refine ⟨fd, hb, fun base h1 h2 => (hF base h1 h2).imp fun vs H Q E ⟨a, ns, e, hS, hl, q⟩ => ?_⟩
    subst e
    obtain ⟨w', hw⟩ := hlaw ns hl
    have reps : ∀ ns : List Int, Reps ⟨K w.params, mg, w⟩ ⟨[], []⟩ H (ns.map D.int) (ns.map V.int) := fun ns => by
      induction ns with
      | nil => exact rfl
      | cons n ns ih => exact ⟨_, _, rfl, rfl, ih⟩
    refine ⟨⟨[], []⟩, [.lst (ns.map .int)], [], [], rfl, ⟨rfl, List.nodup_nil, fun i a d e => by simp at e, fun a ha => by cases ha⟩, Reps.one ⟨a, _, rfl, ?_, reps ns⟩, ?_⟩
    · rcases hS with h | h
      · exact .inl ⟨⟨by simp, by simp⟩, h⟩
      · exact .inr h
    · rw [hw]
      intro v ρ' H' _ _ r
      rw [show v = .bl true from r]
      exact q H'
  · obtain ⟨_, _, _, _, _, _, _, _, _, _, _, _, z⟩ := h
    exact z
/-- a written tuple of texts -/
theorem gk_texts {K : PySem.W.Frag} {mg : Str → Option Value} {x : Str} {t : Addr} {dd : Option Addr} {sl : Array (Option Value)} {ep : Nat} {xs : List Str} {its : List Value} (hm : mg x = some (.ref t)) (hk : K.lookup t = some ⟨.type "tuple", dd, .seq its.toArray ep, sl⟩)
    (hv : Vals (xs.map V.str) its) (hl : xs.length ≤ 1000) : GK ⟨K, mg, w⟩ x (.tup (xs.map D.str)) := by
  have e := hv.length
  rw [List.length_map] at e
  have reps : ∀ (xs : List Str) (C : Cfg) (ρ : Zn) (H : Hp), Reps C ρ H (xs.map D.str) (xs.map V.str) := fun xs C ρ H => by
    induction xs with
    | nil => exact rfl
    | cons n ns ih => exact ⟨_, _, rfl, rfl, ih⟩
  exact ⟨.ref t, .ref t, hm, rfl, fun ρ H => ⟨t, _, rfl, .inr ⟨_, its.toArray, ep, hk, rfl, rfl, by rw [List.size_toArray, ← e]; exact Nat.le_of_lt (small1000 hl), by simpa using hv⟩, reps xs _ ρ H⟩⟩
theorem gk_text {K : PySem.W.Frag} {mg : Str → Option Value} {x y : Str} {t : Tok} (hm : mg x = some (.str y t)) : GK ⟨K, mg, w⟩ x (.str y) := ⟨.str y, _, hm, ⟨t, rfl⟩, fun _ _ => rfl⟩
theorem gk_int {K : PySem.W.Frag} {mg : Str → Option Value} {x : Str} {y : Int} {t : Tok} (hm : mg x = some (.int y t)) : GK ⟨K, mg, w⟩ x (.int y) := ⟨.int y, _, hm, ⟨t, rfl⟩, fun _ _ => rfl⟩
end Fx
/-! What the functions give: rewriting by values. -/
namespace Fx
open PySem PySem.Spec L2

def Out.an {α β : Type} (o : Out α) (f : α → List D → Out β) : Out β := match o with
  | .ok a w => f a w
  | .exn c ns xs w => .exn c ns xs w
  | .no => .no
def Out.st {α : Type} (o : Out α) (env : Env) (f : α → List D → OS) : OS := match o with
  | .ok a w => f a w
  | .exn c ns xs w => .exn c ns xs env w
  | .no => .no
def OS.an (o : OS) (f : Env → List D → OS) : OS := match o with
  | .go .nx env w => f env w
  | o => o
def OS.turn (o : OS) (f : Env → List D → OS) : OS := match o with
  | .go .nx env w => f env w
  | .go .ct env w => f env w
  | .go .bk env w => .go .nx env w
  | .go (.rt d) env w => .go (.rt d) env w
  | .exn c ns xs env w => .exn c ns xs env w
  | .no => .no
def OS.fin (o : OS) : Out D := match o with
  | .go .nx _ w => .ok .non w
  | .go (.rt d) _ w => .ok d w
  | .exn c ns xs _ w => .exn c ns xs w
  | _ => .no
def Out.calm {α : Type} (o : Out α) : Out α := match o with
  | .ok a w => .ok a w
  | _ => .no
def ofO (o : Option (Option D)) (w : List D) : Out D := match o with
  | some (some d) => .ok d w
  | _ => .no
section
variable {α β : Type} {m : M α} {f : α → M β} {a : α} {ro w w' : List D} {env env' : Env} {c : Str} {ns : List Str} {xs : List D} {d e : D} {g : α → List D → Out β} {h : Env → List D → OS} {k : α → List D → OS}
@[simp] theorem an_ok : (Out.ok a w).an g = g a w := rfl
@[simp] theorem an_exn : (Out.exn c ns xs w : Out α).an g = .exn c ns xs w := rfl
@[simp] theorem an_no : (Out.no : Out α).an g = .no := rfl
@[simp] theorem st_ok : (Out.ok a w).st env k = k a w := rfl
@[simp] theorem st_exn : (Out.exn c ns xs w : Out α).st env k = .exn c ns xs env w := rfl
@[simp] theorem st_no : (Out.no : Out α).st env k = .no := rfl
@[simp] theorem oan_nx : (OS.go .nx env w).an h = h env w := rfl
@[simp] theorem oan_rt : (OS.go (.rt d) env w).an h = .go (.rt d) env w := rfl
@[simp] theorem oan_bk : (OS.go .bk env w).an h = .go .bk env w := rfl
@[simp] theorem oan_ct : (OS.go .ct env w).an h = .go .ct env w := rfl
@[simp] theorem oan_exn : (OS.exn c ns xs env w).an h = .exn c ns xs env w := rfl
@[simp] theorem oan_no : OS.no.an h = .no := rfl
@[simp] theorem tn_nx : (OS.go .nx env w).turn h = h env w := rfl
@[simp] theorem tn_ct : (OS.go .ct env w).turn h = h env w := rfl
@[simp] theorem tn_bk : (OS.go .bk env w).turn h = .go .nx env w := rfl
@[simp] theorem tn_rt : (OS.go (.rt d) env w).turn h = .go (.rt d) env w := rfl
@[simp] theorem tn_exn : (OS.exn c ns xs env w).turn h = .exn c ns xs env w := rfl
@[simp] theorem tn_no : OS.no.turn h = .no := rfl
@[simp] theorem fin_nx : (OS.go .nx env w).fin = .ok .non w := rfl
@[simp] theorem fin_rt : (OS.go (.rt d) env w).fin = .ok d w := rfl
@[simp] theorem fin_exn : (OS.exn c ns xs env w).fin = .exn c ns xs w := rfl
@[simp] theorem fin_no : OS.no.fin = .no := rfl
@[simp] theorem calm_ok' : (Out.ok a w).calm = .ok a w := rfl
@[simp] theorem calm_no : (Out.no : Out α).calm = .no := rfl
@[simp] theorem ofO_ss : ofO (some (some d)) w = .ok d w := rfl
@[simp] theorem ofO_sn : ofO (some none) w = .no := rfl
@[simp] theorem ofO_n : ofO none w = .no := rfl
@[simp] theorem x_bind : M.bind m f ro w = (m ro w).an fun a w' => f a ro w' := by
  unfold M.bind
  cases m ro w <;> rfl
@[simp] theorem x_pure : M.pure a ro w = .ok a w := rfl
@[simp] theorem x_no : (M.no : M α) ro w = .no := rfl
@[simp] theorem x_calm : M.calm m ro w = (m ro w).calm := by
  unfold M.calm
  cases m ro w <;> rfl
@[simp] theorem x_see : M.see d ro w = .ok (see ro w d) w := rfl
@[simp] theorem see_non : see ro w .non = .non := rfl
@[simp] theorem see_int {i : Int} : see ro w (.int i) = .int i := rfl
@[simp] theorem see_str {i : Str} : see ro w (.str i) = .str i := rfl
@[simp] theorem see_bl {i : Bool} : see ro w (.bl i) = .bl i := rfl
@[simp] theorem see_tup {ds : List D} : see ro w (.tup ds) = .tup ds := rfl
@[simp] theorem see_lst {ds : List D} : see ro w (.lst ds) = .lst ds := rfl
@[simp] theorem see_dct {ks ds : List D} : see ro w (.dct ks ds) = .dct ks ds := rfl
@[simp] theorem see_dic {ks ds : List D} : see ro w (.dic ks ds) = .dic ks ds := rfl
theorem see_ref {n : Nat} : see ro w (.ref n) = ((ro ++ w)[n]?).getD .non := rfl
@[simp] theorem x_var {i : Nat} : cVar i env ro w = ofO env[i]? w := by
  unfold cVar
  cases env[i]? with
  | none => rfl
  | some o => cases o <;> rfl
@[simp] theorem x_k : cK d env ro w = .ok d w := rfl
@[simp] theorem x_args0 : cArgs [] env ro w = .ok [] w := rfl
@[simp] theorem x_args {f : EF} {fs : List EF} : cArgs (f :: fs) env ro w = (f env ro w).an fun d w1 => (cArgs fs env ro w1).an fun ds w2 => .ok (d :: ds) w2 := by
  show M.bind (f env) (fun d => M.bind (cArgs fs env) fun ds => M.pure (d :: ds)) ro w = _
  simp
@[simp] theorem x_call {g : List D → M D} {fs : Env → M (List D)} : cCall g fs env ro w = (fs env ro w).an fun ds w1 => g ds ro w1 := by
  show M.bind (fs env) g ro w = _
  simp
@[simp] theorem x_call0 {g : List D → M D} : cCall0 g env ro w = g [] ro w := rfl
@[simp] theorem x_one {g : D → M D} : one g [d] ro w = g (see ro w d) ro w := rfl
@[simp] theorem x_tup {fs : Env → M (List D)} : cTup fs env ro w = (fs env ro w).an fun ds w1 => .ok (.tup ds) w1 := by
  show M.bind (fs env) _ ro w = _
  simp
@[simp] theorem x_lst {fs : Env → M (List D)} : cLst fs env ro w = (fs env ro w).an fun ds w1 => .ok (.lst ds) w1 := by
  show M.bind (fs env) _ ro w = _
  simp
@[simp] theorem x_new : mNew d ro w = .ok (.ref (ro.length + w.length)) (w ++ [d]) := by
  unfold mNew
  rw [List.length_append]
@[simp] theorem x_lstM {fs : Env → M (List D)} : cLstM fs env ro w = (fs env ro w).an fun ds w1 => .ok (.ref (ro.length + w1.length)) (w1 ++ [.lst ds]) := by
  show M.bind (fs env) _ ro w = _
  simp
@[simp] theorem x_bin {g : D → D → M D} {fa fb : EF} : cBin g fa fb env ro w = (fa env ro w).an fun d w1 => (fb env ro w1).an fun e w2 => g (see ro w2 d) (see ro w2 e) ro w2 := by
  show M.bind (fa env) _ ro w = _
  simp
@[simp] theorem x_un {g : D → M D} {fa : EF} : cUn g fa env ro w = (fa env ro w).an fun d w1 => g d ro w1 := by
  show M.bind (fa env) _ ro w = _
  simp
/-! truth -/
def Out.obl (o : Option Bool) (w : List D) : Out Bool := match o with
  | some b => .ok b w
  | none => .no
@[simp] theorem obl_s {b : Bool} : Out.obl (some b) w = .ok b w := rfl
@[simp] theorem bool_bl {b : Bool} : M.bool (.bl b) ro w = .ok b w := rfl
@[simp] theorem truth_bl {b : Bool} : M.truth (.bl b) ro w = .ok b w := rfl
@[simp] theorem truth_non : M.truth .non ro w = .ok false w := rfl
@[simp] theorem truth_int {i : Int} : M.truth (.int i) ro w = .ok (i != 0) w := rfl
@[simp] theorem truth_lst {ds : List D} : M.truth (.lst ds) ro w = .ok (!ds.isEmpty) w := rfl
@[simp] theorem truth_tup {ds : List D} : M.truth (.tup ds) ro w = .ok (!ds.isEmpty) w := rfl
@[simp] theorem x_test {fa : EF} : cTest fa env ro w = (fa env ro w).an fun d w1 => M.bool d ro w1 := by
  show M.bind (fa env) _ ro w = _
  simp
@[simp] theorem x_tru {fa : EF} : cTru fa env ro w = (fa env ro w).an fun d w1 => M.truth (see ro w1 d) ro w1 := by
  show M.bind (fa env) _ ro w = _
  simp
@[simp] theorem x_yes : cYes env ro w = .ok true w := rfl
variable {ta tb : Env → M Bool} {fa fb : EF}
@[simp] theorem x_andT : cAndT ta tb env ro w = (ta env ro w).an fun b w1 => if b = true then tb env ro w1 else .ok false w1 := by
  show M.bind (ta env) _ ro w = _
  rw [x_bind]
  congr
  funext b w1
  cases b <;> rfl
@[simp] theorem x_orT : cOrT ta tb env ro w = (ta env ro w).an fun b w1 => if b = true then .ok true w1 else tb env ro w1 := by
  show M.bind (ta env) _ ro w = _
  rw [x_bind]
  congr
  funext b w1
  cases b <;> rfl
@[simp] theorem x_notT : cNotT ta env ro w = (ta env ro w).an fun b w1 => .ok (!b) w1 := by
  show M.bind (ta env) _ ro w = _
  simp
@[simp] theorem x_if : cIf ta fa fb env ro w = (ta env ro w).an fun b w1 => if b = true then fa env ro w1 else fb env ro w1 := by
  show M.bind (ta env) _ ro w = _
  rw [x_bind]
  congr
  funext b w1
  cases b <;> rfl
def andV (d : D) (o : List D → Out D) (w : List D) : Out D := match d with
  | .bl true => o w
  | .bl false => .ok (.bl false) w
  | _ => .no
def orV (d : D) (o : List D → Out D) (w : List D) : Out D := match d with
  | .bl true => .ok (.bl true) w
  | .bl false => o w
  | _ => .no
@[simp] theorem andV_bl {b : Bool} {o : List D → Out D} : andV (.bl b) o w = if b = true then o w else .ok (.bl false) w := by cases b <;> rfl
@[simp] theorem orV_bl {b : Bool} {o : List D → Out D} : orV (.bl b) o w = if b = true then .ok (.bl true) w else o w := by cases b <;> rfl
@[simp] theorem x_and : cAnd fa fb env ro w = (fa env ro w).an fun d w1 => andV d (fb env ro) w1 := by
  show M.bind (fa env) _ ro w = _
  rw [x_bind]
  congr
  funext d w1
  cases d with
  | bl b => cases b <;> rfl
  | _ => rfl
@[simp] theorem x_or : cOr fa fb env ro w = (fa env ro w).an fun d w1 => orV d (fb env ro) w1 := by
  show M.bind (fa env) _ ro w = _
  rw [x_bind]
  congr
  funext d w1
  cases d with
  | bl b => cases b <;> rfl
  | _ => rfl
def notV (d : D) (w : List D) : Out D := match d with
  | .bl b => .ok (.bl (!b)) w
  | _ => .no
@[simp] theorem notV_bl {b : Bool} : notV (.bl b) w = .ok (.bl (!b)) w := rfl
@[simp] theorem x_not : cNot fa env ro w = (fa env ro w).an fun d w1 => notV d w1 := by
  show M.bind (fa env) _ ro w = _
  rw [x_bind]
  congr
  funext d w1
  cases d <;> rfl
/-! operators -/
variable {i j : Int} {x y : Str}
@[simp] theorem add_int : gAdd (.int i) (.int j) ro w = .ok (.int (i + j)) w := rfl
@[simp] theorem add_str : gAdd (.str x) (.str y) ro w = if x.length + y.length ≤ sizeLine then .ok (.str (x ++ y)) w else .no := rfl
@[simp] theorem add_tup {ds es : List D} : gAdd (.tup ds) (.tup es) ro w = if ds.length + es.length ≤ sizeLine then .ok (.tup (ds ++ es)) w else .no := rfl
@[simp] theorem add_lst {ds es : List D} : gAdd (.lst ds) (.lst es) ro w = if ds.length + es.length ≤ sizeLine then .ok (.lst (ds ++ es)) w else .no := rfl
@[simp] theorem sub_int : Fx.gSub (.int i) (.int j) ro w = .ok (.int (i - j)) w := rfl
@[simp] theorem mul_int : gMul (.int i) (.int j) ro w = if i.natAbs < 2 ^ 64 ∨ j.natAbs < 2 ^ 64 then .ok (.int (i * j)) w else .no := rfl
@[simp] theorem div_int : gDiv (.int i) (.int j) ro w = if 0 < j ∧ j.natAbs < 1073741824 then .ok (.int (i / j)) w else .no := rfl
@[simp] theorem mod_int : gMod (.int i) (.int j) ro w = if 0 < j then .ok (.int (i % j)) w else .no := rfl
@[simp] theorem lt_int : gLt (.int i) (.int j) ro w = .ok (.bl (decide (i < j))) w := rfl
@[simp] theorem le_int : gLe (.int i) (.int j) ro w = .ok (.bl (decide (i ≤ j))) w := rfl
@[simp] theorem gt_int : gGt (.int i) (.int j) ro w = .ok (.bl (decide (j < i))) w := rfl
@[simp] theorem ge_int : gGe (.int i) (.int j) ro w = .ok (.bl (decide (j ≤ i))) w := rfl
@[simp] theorem neg_int : gNeg (.int i) ro w = .ok (.int (-i)) w := rfl
@[simp] theorem isN : gIsN d .non ro w = .ok (.bl d.isNon) w := rfl
@[simp] theorem notN : gNotN d .non ro w = .ok (.bl (!d.isNon)) w := rfl
@[simp] theorem isNon_non : D.non.isNon = true := rfl
@[simp] theorem isNon_bl {b : Bool} : (D.bl b).isNon = false := rfl
@[simp] theorem isNon_int : (D.int i).isNon = false := rfl
@[simp] theorem isNon_str : (D.str x).isNon = false := rfl
@[simp] theorem isNon_tup {ds : List D} : (D.tup ds).isNon = false := rfl
@[simp] theorem isNon_lst {ds : List D} : (D.lst ds).isNon = false := rfl
theorem x_eq : gEq d e ro w = if (d.cmp && e.cmp) = true then .ok (.bl (PyData.eqv d.py e.py)) w else .no := rfl
theorem x_ne : gNe d e ro w = if (d.cmp && e.cmp) = true then .ok (.bl (!PyData.eqv d.py e.py)) w else .no := rfl
@[simp] theorem cmp_int : (D.int i).cmp = true := rfl
@[simp] theorem cmp_bl {b : Bool} : (D.bl b).cmp = true := rfl
@[simp] theorem eq_int : gEq (.int i) (.int j) ro w = .ok (.bl (decide (i = j))) w := by
  rw [x_eq, if_pos (by simp)]
  show Out.ok (D.bl (i == j)) w = _
  rw [Bool.beq_eq_decide_eq]
@[simp] theorem ne_int : gNe (.int i) (.int j) ro w = .ok (.bl (!decide (i = j))) w := by
  rw [x_ne, if_pos (by simp)]
  show Out.ok (D.bl (!(i == j))) w = _
  rw [Bool.beq_eq_decide_eq]
@[simp] theorem eq_bl {a b : Bool} : gEq (.bl a) (.bl b) ro w = .ok (.bl (decide (a = b))) w := by
  rw [x_eq, if_pos (by simp)]
  show Out.ok (D.bl (a == b)) w = _
  rw [Bool.beq_eq_decide_eq]
@[simp] theorem ne_bl {a b : Bool} : gNe (.bl a) (.bl b) ro w = .ok (.bl (!decide (a = b))) w := by
  rw [x_ne, if_pos (by simp)]
  show Out.ok (D.bl (!(a == b))) w = _
  rw [Bool.beq_eq_decide_eq]
def Out.od (o : Option D) (w : List D) : Out D := match o with
  | some d => .ok d w
  | none => .no
@[simp] theorem od_s : Out.od (some d) w = .ok d w := rfl
@[simp] theorem od_n : Out.od none w = .no := rfl
@[simp] theorem ix_tup {ds : List D} : gIx (.tup ds) (.int i) ro w = Out.od (L2.atI ds i) w := by
  unfold gIx Out.od
  cases h : L2.atI ds i <;> simp only [h]
@[simp] theorem ix_lst {ds : List D} : gIx (.lst ds) (.int i) ro w = Out.od (L2.atI ds i) w := by
  unfold gIx Out.od
  cases h : L2.atI ds i <;> simp only [h]
@[simp] theorem len_tup {ds : List D} : gLen (.tup ds) ro w = .ok (.int ds.length) w := rfl
@[simp] theorem len_lst {ds : List D} : gLen (.lst ds) ro w = .ok (.int ds.length) w := rfl
@[simp] theorem len_str : gLen (.str x) ro w = if x.length ≤ sizeLine then .ok (.int x.length) w else .no := rfl
@[simp] theorem int_int : gInt (.int i) ro w = .ok (.int i) w := rfl
@[simp] theorem int_bl {b : Bool} : gInt (.bl b) ro w = .ok (.int (if b then 1 else 0)) w := rfl
@[simp] theorem list_lst {ds : List D} : gList (.lst ds) ro w = .ok (.lst ds) w := rfl
@[simp] theorem list_tup {ds : List D} : gList (.tup ds) ro w = .ok (.lst ds) w := rfl
@[simp] theorem listM_lst {ds : List D} : gListM (.lst ds) ro w = .ok (.ref (ro.length + w.length)) (w ++ [.lst ds]) := by
  show mNew _ ro w = _
  simp
@[simp] theorem listM_tup {ds : List D} : gListM (.tup ds) ro w = .ok (.ref (ro.length + w.length)) (w ++ [.lst ds]) := by
  show mNew _ ro w = _
  simp
@[simp] theorem tuple_lst {ds : List D} : gTuple (.lst ds) ro w = .ok (.tup ds) w := rfl
@[simp] theorem tuple_tup {ds : List D} : gTuple (.tup ds) ro w = .ok (.tup ds) w := rfl
def isiV (t : Ty) (d : D) (w : List D) : Out D := match d.ty? with
  | some a => .ok (.bl (isTy a t)) w
  | none => .no
@[simp] theorem isi_non {t : Ty} : isiV t .non w = .ok (.bl (isTy .non t)) w := rfl
@[simp] theorem isi_int {t : Ty} : isiV t (.int i) w = .ok (.bl (isTy .int t)) w := rfl
@[simp] theorem isi_str {t : Ty} : isiV t (.str x) w = .ok (.bl (isTy .str t)) w := rfl
@[simp] theorem isi_bl {t : Ty} {b : Bool} : isiV t (.bl b) w = .ok (.bl (isTy .bl t)) w := rfl
@[simp] theorem isi_tup {t : Ty} {ds : List D} : isiV t (.tup ds) w = .ok (.bl (isTy .tup t)) w := rfl
@[simp] theorem isi_lst {t : Ty} {ds : List D} : isiV t (.lst ds) w = .ok (.bl (isTy .lst t)) w := rfl
@[simp] theorem x_isi {t : Ty} : cIsi t fa env ro w = (fa env ro w).an fun d w1 => isiV t (see ro w1 d) w1 := by
  show M.bind (fa env) _ ro w = _
  simp only [x_bind, x_see, an_ok]
  congr
  funext d w1
  unfold gIsi isiV
  cases (see ro w1 d).ty? <;> rfl
@[simp] theorem x_in {b : Bool} (h : inD d e = some b) : gIn d e ro w = .ok (.bl b) w := by
  unfold gIn
  rw [h]
@[simp] theorem x_notIn {b : Bool} (h : inD d e = some b) : gNotIn d e ro w = .ok (.bl (!b)) w := by
  unfold gNotIn
  rw [h]
@[simp] theorem x_noPart : cNoPart env ro w = .ok none w := rfl
def partV (d : D) (w : List D) : Out (Option Int) := match d with
  | .int i => .ok (some i) w
  | _ => .no
@[simp] theorem partV_int : partV (.int i) w = .ok (some i) w := rfl
@[simp] theorem x_part : cPart fa env ro w = (fa env ro w).an fun d w1 => partV d w1 := by
  show M.bind (fa env) _ ro w = _
  rw [x_bind]
  congr
  funext d w1
  cases d <;> rfl
@[simp] theorem x_sl {lo hi : Env → M (Option Int)} : cSl fa lo hi env ro w = (fa env ro w).an fun d w1 => (lo env ro w1).an fun i w2 => (hi env ro w2).an fun j w3 => gSl (see ro w3 d) i j ro w3 := by
  show M.bind (fa env) _ ro w = _
  simp
@[simp] theorem sl_lst {ds : List D} {lo hi : Option Int} : gSl (.lst ds) lo hi ro w = .ok (.lst (cut ds lo hi)) w := rfl
@[simp] theorem sl_tup {ds : List D} {lo hi : Option Int} : gSl (.tup ds) lo hi ro w = .ok (.tup (cut ds lo hi)) w := rfl
/-! statements -/
variable {s t : SF}
@[simp] theorem x_nil : sNil env ro w = .go .nx env w := rfl
@[simp] theorem x_pass : sPass env ro w = .go .nx env w := rfl
@[simp] theorem x_brk : sBrk env ro w = .go .bk env w := rfl
@[simp] theorem x_cnt : sCnt env ro w = .go .ct env w := rfl
@[simp] theorem x_seq : sSeq s t env ro w = (s env ro w).an fun env' w' => t env' ro w' := by
  unfold sSeq OS.an
  cases s env ro w with
  | go fl env w => cases fl <;> rfl
  | _ => rfl
theorem x_lift {f : Env → M α} {k : α → SF} : sLift f k env ro w = (f env ro w).st env fun a w' => k a env ro w' := by
  unfold sLift Out.st
  cases f env ro w <;> rfl
@[simp] theorem x_set {n : Nat} : sSet n fa env ro w = (fa env ro w).st env fun d w' => .go .nx (env.set n (some d)) w' := x_lift
@[simp] theorem x_ret : sRet fa env ro w = (fa env ro w).st env fun d w' => .go (.rt d) env w' := x_lift
@[simp] theorem x_retN : sRetN env ro w = .go (.rt .non) env w := rfl
@[simp] theorem x_expr : sExpr fa env ro w = (fa env ro w).st env fun _ w' => .go .nx env w' := x_lift
@[simp] theorem x_ifS : sIf ta s t env ro w = (ta env ro w).st env fun b w' => if b = true then s env ro w' else t env ro w' := by
  refine x_lift.trans ?_
  congr
  funext b w'
  cases b <;> rfl
@[simp] theorem x_put {fo fi fv : EF} : sPut fo fi fv env ro w = (fv env ro w).st env fun v w1 => (fo env ro w1).st env fun o w2 => (fi env ro w2).st env fun i w3 => (gPut v o i ro w3).st env fun _ w4 => .go .nx env w4 := by
  refine x_lift.trans (congrArg _ ?_)
  funext v w1
  refine x_lift.trans (congrArg _ ?_)
  funext o w2
  refine x_lift.trans (congrArg _ ?_)
  funext i w3
  exact x_lift
@[simp] theorem x_aug {n : Nat} {g : D → D → M D} : sAug n g fa env ro w = (cVar n env ro w).st env fun x w1 => (fa env ro w1).st env fun y w2 => (g (see ro w2 x) (see ro w2 y) ro w2).st env fun z w3 => .go .nx (env.set n (some z)) w3 := by
  refine x_lift.trans (congrArg _ ?_)
  funext v w1
  refine x_lift.trans (congrArg _ ?_)
  funext o w2
  refine x_lift.trans ?_
  simp
theorem x_for {tg : Tg} {it : Env → M (List D)} : sFor tg it s env ro w = (it env ro w).st env fun ds w' => forL tg s ds env ro w' := x_lift
@[simp] theorem for_nil {tg : Tg} : forL tg s [] env ro w = .go .nx env w := rfl
theorem for_cons {tg : Tg} {ds : List D} (h : tg.put d env = some env') : forL tg s (d :: ds) env ro w = (s env' ro w).turn fun env2 w2 => forL tg s ds env2 ro w2 := by
  show (match tg.put d env with
    | none => OS.no
    | some env1 => match s env1 ro w with
      | .go .nx env2 w2 => forL tg s ds env2 ro w2
      | .go .ct env2 w2 => forL tg s ds env2 ro w2
      | .go .bk env2 w2 => .go .nx env2 w2
      | .go (.rt d) env2 w2 => .go (.rt d) env2 w2
      | .exn c ns xs env2 w2 => .exn c ns xs env2 w2
      | .no => .no) = _
  rw [h]
  dsimp only
  cases s env' ro w with
  | go fl env w => cases fl <;> rfl
  | _ => rfl
@[simp] theorem for_nm {n : Nat} {ds : List D} : forL (.nm n) s (d :: ds) env ro w = (s (env.set n (some d)) ro w).turn fun env2 w2 => forL (.nm n) s ds env2 ro w2 := for_cons rfl
def seqV (d : D) (w : List D) : Out (List D) := match d with
  | .lst ds => .ok ds w
  | .tup ds => .ok ds w
  | _ => .no
@[simp] theorem seqV_lst {ds : List D} : seqV (.lst ds) w = .ok ds w := rfl
@[simp] theorem seqV_tup {ds : List D} : seqV (.tup ds) w = .ok ds w := rfl
@[simp] theorem x_seqI : cSeq fa env ro w = (fa env ro w).an fun d w1 => seqV d w1 := by
  show M.bind (fa env) _ ro w = _
  rw [x_bind]
  congr
  funext d w1
  cases d <;> rfl
@[simp] theorem x_rng1 {fs : Env → M (List D)} : cRng1 fs env ro w = (fs env ro w).an fun ds w1 => gRng1 ds ro w1 := by
  show M.bind (fs env) _ ro w = _
  simp
@[simp] theorem x_rng2 {fs : Env → M (List D)} : cRng2 fs env ro w = (fs env ro w).an fun ds w1 => gRng2 ds ro w1 := by
  show M.bind (fs env) _ ro w = _
  simp
theorem rng1_int : gRng1 [.int i] ro w = if i.natAbs < 2 ^ 62 then .ok (rngD 0 i.toNat) w else .no := rfl
@[simp] theorem x_rev {fs : Env → M (List D)} : cRev fs env ro w = (fs env ro w).an fun ds w1 => gRev ds ro w1 := by
  show M.bind (fs env) _ ro w = _
  simp
@[simp] theorem rev_lst {ds : List D} : gRev [.lst ds] ro w = .ok ds.reverse w := rfl
theorem x_comp {tg : Tg} {own : List Nat} {it : Env → M (List D)} {k : List D → M D} : cComp tg own it ta fa k env ro w = (it env ro w).an fun ds w1 => if ds.length ≤ sizeLine then (compR tg ta fa (wipeE env own) ds ro w1).an fun r w2 => k r ro w2 else .no := by
  show M.bind (few it env) _ ro w = _
  unfold few
  simp only [x_bind]
  cases it env ro w with
  | ok ds w1 =>
    simp only [an_ok]
    by_cases h : ds.length ≤ sizeLine
    · simp only [if_pos h, an_ok]
    · simp only [if_neg h, an_no]
  | _ => rfl
@[simp] theorem comp_nil {tg : Tg} : compR tg ta fa env [] ro w = .ok [] w := rfl
theorem comp_cons {tg : Tg} {ds : List D} (h : tg.put d env = some env') : compR tg ta fa env (d :: ds) ro w = (ta env' ro w).calm.an fun b w1 => if b = true then (fa env' ro w1).calm.an fun x w2 => (compR tg ta fa env ds ro w2).an fun r w3 => .ok (x :: r) w3 else compR tg ta fa env ds ro w1 := by
  show (match tg.put d env with
    | none => M.no
    | some env1 => M.bind (M.calm (ta env1)) fun b => if b = true then M.bind (M.calm (fa env1)) fun x => M.bind (compR tg ta fa env ds) fun r => M.pure (x :: r) else compR tg ta fa env ds) ro w = _
  rw [h]
  simp only [x_bind, x_calm]
  congr
  funext b w1
  cases b <;> simp
@[simp] theorem comp_nm {n : Nat} {ds : List D} : compR (.nm n) ta fa env (d :: ds) ro w = (ta (env.set n (some d)) ro w).calm.an fun b w1 => if b = true then (fa (env.set n (some d)) ro w1).calm.an fun x w2 => (compR (.nm n) ta fa env ds ro w2).an fun r w3 => .ok (x :: r) w3 else compR (.nm n) ta fa env ds ro w1 := comp_cons rfl
@[simp] theorem x_still {ds : List D} : kStill ds ro w = .ok (.lst ds) w := rfl
@[simp] theorem x_mut {ds : List D} : kMut ds ro w = .ok (.ref (ro.length + w.length)) (w ++ [.lst ds]) := by
  show mNew _ ro w = _
  simp
theorem x_def {np N : Nat} {ds : List D} : runDef np N s ds ro w = if ds.length = np then (s (ds.map some ++ List.replicate (N - np) none) ro w).fin else .no := by
  unfold runDef OS.fin
  by_cases h : ds.length = np
  · simp only [if_pos h]
    all_goals
      cases s (ds.map some ++ List.replicate (N - np) none) ro w with
      | go fl env w => cases fl <;> rfl
      | _ => rfl
  · simp only [if_neg h]
theorem while_succ {n : Nat} : whileL ta s (n + 1) env ro w = (ta env ro w).st env fun b w1 => if b = true then (s env ro w1).turn fun env2 w2 => whileL ta s n env2 ro w2 else .go .nx env w1 := by
  refine x_lift.trans ?_
  congr
  funext b w1
  cases b with
  | false => rfl
  | true =>
    rw [if_pos rfl, if_pos rfl]
    cases s env ro w1 with
    | go fl env w => cases fl <;> rfl
    | _ => rfl
/-! a list that changes -/
theorem mod_at {f : List D → Option (D × List D)} {n : Nat} {ds ds' : List D} (hn : ro.length ≤ n) (h : w[n - ro.length]? = some (.lst ds)) (hf : f ds = some (d, ds')) : mMod f (.ref n) ro w = .ok d (w.set (n - ro.length) (.lst ds')) := by
  unfold mMod
  simp only [if_neg (Nat.not_lt.mpr hn), h, hf]
def mlV (o : D) (k : List D → Out D) (w : List D) : Out D := match o with
  | .lst _ => k w
  | _ => .no
@[simp] theorem mlV_lst {ds : List D} {k : List D → Out D} : mlV (.lst ds) k w = k w := rfl
@[simp] theorem x_ml {g : List D → D → M D} {fo : EF} {fs : Env → M (List D)} : cMl g fo fs env ro w = (fo env ro w).an fun o w1 => mlV (see ro w1 o) (fun w1 => (fs env ro w1).an fun ds w2 => g ds o ro w2) w1 := by
  show M.bind (fo env) _ ro w = _
  simp only [x_bind, x_see, an_ok]
  congr
  funext o w1
  cases see ro w1 o <;> first | rfl | simp [mlV]
end
end Fx
/-! Equal data; formulas as data. -/
namespace Fx
open PySem PySem.Spec L2

theorem ofString_inj {a b : String} : (Str.ofString a = Str.ofString b) = (a = b) := by
  apply propext
  refine ⟨fun h => ?_, fun h => by rw [h]⟩
  rw [Str.ofString_eq_toList, Str.ofString_eq_toList] at h
  have h1 : a.toList.map Char.toNat = b.toList.map Char.toNat := by
    injection h with h
    have := congrArg Array.toList h
    simpa using this
  have inj : ∀ x y : Char, x.toNat = y.toNat → x = y := fun x y e => Char.toNat_inj.mp e
  have h2 : a.toList = b.toList := by
    revert h1
    generalize a.toList = l
    generalize b.toList = m
    induction l generalizing m with
    | nil => intro h; cases m <;> simp_all
    | cons x l ih =>
      intro h
      cases m with
      | nil => simp at h
      | cons y m =>
        simp only [List.map_cons, List.cons.injEq] at h
        rw [inj _ _ h.1, ih _ h.2]
  exact String.toList_inj.mp h2
noncomputable instance : DecidableEq D := fun _ _ => Classical.propDecidable _

@[simp] theorem ok_lit {a : String} : PyData.strOk (Str.ofString a) = true := by
  unfold PyData.strOk
  rw [Str.ofString_eq_toList, ← Array.all_toList]
  simp only [List.all_map, List.all_eq_true]
  intro c _
  have h := c.valid
  simp only [Function.comp, decide_eq_true_eq]
  rcases h with h | h
  · have : c.toNat < 0xd800 := h
    omega
  · have : c.toNat < 0x110000 := h.2
    omega

/-! ### data without truth values -/
mutual
def D.nb : D → Bool
  | .non => true
  | .int _ => true
  | .str _ => true
  | .tup ds => D.nbs ds
  | .lst ds => D.nbs ds
  | _ => false
def D.nbs : List D → Bool
  | [] => true
  | d :: ds => d.nb && D.nbs ds
end
mutual
theorem D.nb_flat : ∀ d : D, d.nb = true → d.flat = true
  | .non, _ => rfl
  | .int _, _ => rfl
  | .str _, _ => rfl
  | .tup ds, h => by
    simp only [D.nb] at h
    simpa only [D.flat] using D.nbs_flat ds h
  | .lst ds, h => by
    simp only [D.nb] at h
    simpa only [D.flat] using D.nbs_flat ds h
  | .bl _, h => by simp [D.nb] at h
  | .dic _ _, h => by simp [D.nb] at h
  | .dct _ _, h => by simp [D.nb] at h
  | .ins _ _ _, h => by simp [D.nb] at h
  | .fn _, h => by simp [D.nb] at h
  | .rng _, h => by simp [D.nb] at h
  | .ref _, h => by simp [D.nb] at h
theorem D.nbs_flat : ∀ ds : List D, D.nbs ds = true → D.flats ds = true
  | [], _ => rfl
  | d :: ds, h => by
    simp only [D.nbs, Bool.and_eq_true] at h
    simp only [D.flats, Bool.and_eq_true]
    exact ⟨D.nb_flat d h.1, D.nbs_flat ds h.2⟩
end
mutual
theorem eqv_nb : ∀ (d e : D), d.nb = true → e.nb = true → (PyData.eqv d.py e.py = true ↔ d = e)
  | .bl _, _, h, _ => by simp [D.nb] at h
  | .dic _ _, _, h, _ => by simp [D.nb] at h
  | .dct _ _, _, h, _ => by simp [D.nb] at h
  | .ins _ _ _, _, h, _ => by simp [D.nb] at h
  | .fn _, _, h, _ => by simp [D.nb] at h
  | .rng _, _, h, _ => by simp [D.nb] at h
  | .ref _, _, h, _ => by simp [D.nb] at h
  | .non, e, _, h => by cases e <;> simp_all [D.nb, D.py, PyData.eqv]
  | .int i, e, _, h => by cases e <;> simp_all [D.nb, D.py, PyData.eqv]
  | .str i, e, _, h => by cases e <;> simp_all [D.nb, D.py, PyData.eqv]
  | .tup ds, e, h', h => by
    cases e with
    | tup es =>
      simp only [D.nb] at h h'
      simp only [D.py, PyData.eqv, D.tup.injEq]
      exact eqvs_nb ds es h' h
    | _ => simp_all [D.nb, D.py, PyData.eqv]
  | .lst ds, e, h', h => by
    cases e with
    | lst es =>
      simp only [D.nb] at h h'
      simp only [D.py, PyData.eqv, D.lst.injEq]
      exact eqvs_nb ds es h' h
    | _ => simp_all [D.nb, D.py, PyData.eqv]
theorem eqvs_nb : ∀ (ds es : List D), D.nbs ds = true → D.nbs es = true → (PyData.eqvAll (D.pys ds) (D.pys es) = true ↔ ds = es)
  | [], [], _, _ => by simp [D.pys, PyData.eqvAll]
  | [], _ :: _, _, _ => by simp [D.pys, PyData.eqvAll]
  | _ :: _, [], _, _ => by simp [D.pys, PyData.eqvAll]
  | d :: ds, e :: es, h, h' => by
    simp only [D.nbs, Bool.and_eq_true] at h h'
    simp only [D.pys, PyData.eqvAll, Bool.and_eq_true, List.cons.injEq]
    rw [eqv_nb d e h.1 h'.1, eqvs_nb ds es h.2 h'.2]
end
theorem eqv_dec {d e : D} (hd : d.nb = true) (he : e.nb = true) : PyData.eqv d.py e.py = decide (d = e) := by
  rw [Bool.eq_iff_iff, decide_eq_true_eq]
  exact eqv_nb d e hd he
/-- data that can be compared, without truth values -/
def D.eqo (d : D) : Bool := d.nb && SeqAt.shaped d.py
theorem D.eqo_cmp {d : D} (h : d.eqo = true) : d.cmp = true := by
  simp only [D.eqo, Bool.and_eq_true] at h
  simp only [D.cmp, Bool.and_eq_true]
  exact ⟨D.nb_flat d h.1, h.2⟩
theorem D.eqo_nb {d : D} (h : d.eqo = true) : d.nb = true := by
  simp only [D.eqo, Bool.and_eq_true] at h
  exact h.1
theorem eq_eqo {d e : D} {ro w : List D} (hd : d.eqo = true) (he : e.eqo = true) : gEq d e ro w = .ok (.bl (decide (d = e))) w := by
  rw [x_eq, if_pos (by rw [D.eqo_cmp hd, D.eqo_cmp he]; rfl), eqv_dec (D.eqo_nb hd) (D.eqo_nb he)]
/-! depth, and that texts are texts -/
mutual
def D.lay : D → Bool
  | .str x => PyData.strOk x
  | .tup ds => D.lays ds
  | .lst ds => D.lays ds
  | _ => true
def D.lays : List D → Bool
  | [] => true
  | d :: ds => d.lay && D.lays ds
end
mutual
def D.dp : D → Nat
  | .tup ds => D.dps ds + 1
  | .lst ds => D.dps ds + 1
  | _ => 0
def D.dps : List D → Nat
  | [] => 0
  | d :: ds => max d.dp (D.dps ds)
end
mutual
theorem D.py_lay : ∀ d : D, d.py.canLay0 = d.lay
  | .str _ => rfl
  | .tup ds => by simp only [D.py, PyData.canLay0, D.lay, D.pys_lay ds]
  | .lst ds => by simp only [D.py, PyData.canLay0, D.lay, D.pys_lay ds]
  | .bl _ => rfl
  | .dic _ _ => rfl
  | .dct _ _ => rfl
  | .ins _ _ _ => rfl
  | .fn _ => rfl
  | .rng _ => rfl
  | .ref _ => rfl
  | .non => rfl
  | .int _ => rfl
theorem D.pys_lay : ∀ ds : List D, PyData.canLayAll0 (D.pys ds) = D.lays ds
  | [] => rfl
  | d :: ds => by simp only [D.pys, PyData.canLayAll0, D.lays, D.py_lay d, D.pys_lay ds]
end
mutual
theorem D.py_dp : ∀ d : D, d.py.depth = d.dp
  | .str _ => rfl
  | .tup ds => by simp only [D.py, PyData.depth, D.dp, D.pys_dp ds]
  | .lst ds => by simp only [D.py, PyData.depth, D.dp, D.pys_dp ds]
  | .bl _ => rfl
  | .dic _ _ => rfl
  | .dct _ _ => rfl
  | .ins _ _ _ => rfl
  | .fn _ => rfl
  | .rng _ => rfl
  | .ref _ => rfl
  | .non => rfl
  | .int _ => rfl
theorem D.pys_dp : ∀ ds : List D, PyData.depthAll (D.pys ds) = D.dps ds
  | [] => rfl
  | d :: ds => by simp only [D.pys, PyData.depthAll, D.dps, D.py_dp d, D.pys_dp ds]
end
theorem eqo_of {d : D} (h1 : d.nb = true) (h2 : d.lay = true) (h3 : d.dp ≤ 64) : d.eqo = true := by
  unfold D.eqo SeqAt.shaped
  rw [D.py_lay, D.py_dp, h1, h2]
  simpa using h3
theorem dps_iff {ds : List D} {n : Nat} : D.dps ds ≤ n ↔ ∀ d ∈ ds, d.dp ≤ n := by
  induction ds with
  | nil => simp [D.dps]
  | cons d ds ih => simp [D.dps, ih, Nat.max_le]
@[simp] theorem eqo_int {i : Int} : (D.int i).eqo = true := eqo_of rfl rfl (Nat.zero_le _)
@[simp] theorem eqo_non : D.non.eqo = true := eqo_of rfl rfl (Nat.zero_le _)
theorem eqo_str {x : Str} (h : PyData.strOk x = true) : (D.str x).eqo = true := eqo_of rfl h (Nat.zero_le _)
theorem eq_str {x y : Str} {ro w : List D} (hx : PyData.strOk x = true) (hy : PyData.strOk y = true) : gEq (.str x) (.str y) ro w = .ok (.bl (decide (x = y))) w := by
  rw [eq_eqo (eqo_str hx) (eqo_str hy)]
  simp
/-! ### whole numbers -/
theorem atI_nat {α : Type} {xs : List α} {i : Nat} : L2.atI xs (i : Int) = xs[i]? := by
  unfold L2.atI L2.ixN
  rw [if_pos (Int.natCast_nonneg i)]
  by_cases h : (i : Int) < xs.length
  · rw [if_pos h]
    simp
  · rw [if_neg h]
    simp only [Option.bind_none]
    rw [List.getElem?_eq_none (by omega)]
theorem cut_map {α β : Type} {f : α → β} {xs : List α} {lo hi : Option Int} : cut (xs.map f) lo hi = (cut xs lo hi).map f := by
  unfold cut
  simp [List.map_drop, List.map_take]
theorem rngD_nat {n : Nat} : rngD 0 n = (List.range n).map fun (i : Nat) => .int i := by
  unfold rngD
  simp

/-! ### formulas -/
inductive Fm where
  | fal
  | var (x : Str)
  | imp (a b : Fm)
  | and (a b : Fm)
  | or (a b : Fm)
  | box (a : Fm)
  deriving DecidableEq
def Fm.toD : Fm → D
  | .fal => .tup [.str "falsum"]
  | .var x => .tup [.str "var", .str x]
  | .imp a b => .tup [.str "implies", a.toD, b.toD]
  | .and a b => .tup [.str "and", a.toD, b.toD]
  | .or a b => .tup [.str "or", a.toD, b.toD]
  | .box a => .tup [.str "box", a.toD]
def Fm.ht : Fm → Nat
  | .fal => 1
  | .var _ => 1
  | .imp a b => max a.ht b.ht + 1
  | .and a b => max a.ht b.ht + 1
  | .or a b => max a.ht b.ht + 1
  | .box a => a.ht + 1
def Fm.Over (P : Str → Prop) : Fm → Prop
  | .fal => True
  | .var x => P x
  | .imp a b => a.Over P ∧ b.Over P
  | .and a b => a.Over P ∧ b.Over P
  | .or a b => a.Over P ∧ b.Over P
  | .box a => a.Over P
def Fm.plain : Fm → Bool
  | .fal => true
  | .var _ => true
  | .imp a b => a.plain && b.plain
  | .and a b => a.plain && b.plain
  | .or a b => a.plain && b.plain
  | .box a => false
theorem Fm.Over.mono {P Q : Str → Prop} (h : ∀ x, P x → Q x) : ∀ (φ : Fm), φ.Over P → φ.Over Q
  | .fal, _ => trivial
  | .var _, g => h _ g
  | .imp a b, g => ⟨Fm.Over.mono h a g.1, Fm.Over.mono h b g.2⟩
  | .and a b, g => ⟨Fm.Over.mono h a g.1, Fm.Over.mono h b g.2⟩
  | .or a b, g => ⟨Fm.Over.mono h a g.1, Fm.Over.mono h b g.2⟩
  | .box a, g => Fm.Over.mono h a g
theorem Fm.ht_pos : ∀ φ : Fm, 0 < φ.ht
  | .fal => by decide
  | .var _ => by simp [Fm.ht]
  | .imp _ _ => Nat.succ_pos _
  | .and _ _ => Nat.succ_pos _
  | .or _ _ => Nat.succ_pos _
  | .box _ => Nat.succ_pos _
theorem Fm.dp : ∀ φ : Fm, φ.toD.dp = φ.ht
  | .fal => rfl
  | .var _ => rfl
  | .imp a b => by simp [Fm.toD, D.dp, D.dps, Fm.ht, a.dp, b.dp]
  | .and a b => by simp [Fm.toD, D.dp, D.dps, Fm.ht, a.dp, b.dp]
  | .or a b => by simp [Fm.toD, D.dp, D.dps, Fm.ht, a.dp, b.dp]
  | .box a => by simp [Fm.toD, D.dp, D.dps, Fm.ht, a.dp]
theorem Fm.nb : ∀ φ : Fm, φ.toD.nb = true
  | .fal => rfl
  | .var _ => rfl
  | .imp a b => by simp [Fm.toD, D.nb, D.nbs, a.nb, b.nb]
  | .and a b => by simp [Fm.toD, D.nb, D.nbs, a.nb, b.nb]
  | .or a b => by simp [Fm.toD, D.nb, D.nbs, a.nb, b.nb]
  | .box a => by simp [Fm.toD, D.nb, D.nbs, a.nb]
theorem Fm.lay : ∀ φ : Fm, φ.Over (fun x => PyData.strOk x = true) → φ.toD.lay = true
  | .fal, _ => by simp [Fm.toD, D.lay, D.lays]
  | .var _, h => by
    have h' := h
    simp only [Fm.Over] at h'
    simp [Fm.toD, D.lay, D.lays, h']
  | .imp a b, h => by simp [Fm.toD, D.lay, D.lays, a.lay h.1, b.lay h.2]
  | .and a b, h => by simp [Fm.toD, D.lay, D.lays, a.lay h.1, b.lay h.2]
  | .or a b, h => by simp [Fm.toD, D.lay, D.lays, a.lay h.1, b.lay h.2]
  | .box a, h => by simp [Fm.toD, D.lay, D.lays, Fm.lay a h]
theorem Fm.eqo {φ : Fm} (h : φ.Over (fun x => PyData.strOk x = true)) (n : φ.ht ≤ 64) : φ.toD.eqo = true := eqo_of φ.nb (φ.lay h) (by rw [φ.dp]; exact n)
@[simp] theorem Fm.toD_inj : ∀ {φ ψ : Fm}, (φ.toD = ψ.toD) ↔ φ = ψ
  | .fal, ψ => by cases ψ <;> simp [Fm.toD, ofString_inj]
  | .var _, ψ => by cases ψ <;> simp [Fm.toD, ofString_inj]
  | .imp a b, ψ => by cases ψ <;> simp [Fm.toD, ofString_inj, a.toD_inj, b.toD_inj]
  | .and a b, ψ => by cases ψ <;> simp [Fm.toD, ofString_inj, a.toD_inj, b.toD_inj]
  | .or a b, ψ => by cases ψ <;> simp [Fm.toD, ofString_inj, a.toD_inj, b.toD_inj]
  | .box a, ψ => by cases ψ <;> simp [Fm.toD, ofString_inj, a.toD_inj]
end Fx
/-! What the laws draw with, and what they compare with. -/
namespace Fx
open PySem PySem.Spec L2
namespace Lw
def hPool : SF :=
  sSeq (sSet 1 (cK (.int 7)))
  (sSeq (sFor (.nm 2) (cSeq (cSl (cVar 0) (cNoPart) (cPart (cK (.int 63))))) (sSet 1 (cBin gMod (cCall (one gInt) (cArgs [cBin gAdd (cBin gMul (cVar 1) (cK (.int 31))) (cVar 2)])) (cK (.int 1000003)))))
  (sRet (cLstM (cArgs [cCall (one gList) (cArgs [cVar 0]), cK (.int 0), cK (.int 0), cK (.int 0), cVar 1]))))

def hSpread : SF :=
  sSeq (sSet 1 (cBin gMod (cCall (one gInt) (cArgs [cVar 0])) (cK (.int 2147483647))))
  (sSeq (sSet 2 (cK (.int 1)))
  (sSeq (sFor (.nm 3) (cRng1 (cArgs [cK (.int 4)])) (sSeq (sSet 1 (cBin gMod (cCall (one gInt) (cArgs [cBin gAdd (cBin gAdd (cBin gMul (cVar 1) (cK (.int 48271))) (cK (.int 12345))) (cVar 3)])) (cK (.int 2147483647))))
  (sSet 2 (cBin gAdd (cBin gMul (cVar 2) (cK (.int 2147483647))) (cVar 1)))))
  (sRet (cVar 2))))

def hDraw (c_spread : List D → M D) : SF :=
  sSeq (sIf (cAndT (cTest (cBin gLe (cBin gIx (cVar 0) (cK (.int 2))) (cK (.int 0)))) (cTest (cBin gLt (cBin gIx (cVar 0) (cK (.int 1))) (cCall (one gLen) (cArgs [cBin gIx (cVar 0) (cK (.int 0))]))))) (sSeq (sSet 3 (cBin gIx (cBin gIx (cVar 0) (cK (.int 0))) (cBin gIx (cVar 0) (cK (.int 1)))))
  (sSeq (sPut (cVar 0) (cK (.int 1)) (cBin gAdd (cBin gIx (cVar 0) (cK (.int 1))) (cK (.int 1))))
  (sSeq (sPut (cVar 0) (cK (.int 2)) (cVar 3))
  (sIf (cTest (cBin gLt (cVar 3) (cK (.int 1000000000000000000)))) (sPut (cVar 0) (cK (.int 2)) (cCall (fun ds => if ds.length = 1 then c_spread ds else M.no) (cArgs [cVar 3]))) (sNil))))) (sNil))
  (sSeq (sPut (cVar 0) (cK (.int 3)) (cBin gAdd (cBin gIx (cVar 0) (cK (.int 3))) (cK (.int 1))))
  (sSeq (sIf (cTest (cBin gLe (cBin gIx (cVar 0) (cK (.int 2))) (cK (.int 0)))) (sSeq (sSet 4 (cBin gMod (cCall (one gInt) (cArgs [cBin gAdd (cBin gAdd (cBin gMul (cBin gIx (cVar 0) (cK (.int 4))) (cK (.int 48271))) (cBin gMul (cBin gIx (cVar 0) (cK (.int 3))) (cK (.int 69621)))) (cK (.int 1))])) (cK (.int 2147483647))))
  (sSeq (sSet 4 (cBin gMod (cCall (one gInt) (cArgs [cBin gAdd (cBin gMul (cVar 4) (cK (.int 16807))) (cBin gIx (cVar 0) (cK (.int 3)))])) (cK (.int 2147483629))))
  (sRet (cBin gMod (cBin gDiv (cVar 4) (cK (.int 5))) (cVar 1))))) (sNil))
  (sSeq (sSet 2 (cBin gMod (cCall (one gInt) (cArgs [cBin gIx (cVar 0) (cK (.int 2))])) (cVar 1)))
  (sSeq (sPut (cVar 0) (cK (.int 2)) (cBin gDiv (cBin gIx (cVar 0) (cK (.int 2))) (cVar 1)))
  (sRet (cVar 2))))))

def hSame (c_same : List D → M D) : SF :=
  sSeq (sIf (cOrT (cTru (cIsi .tup (cVar 1))) (cTru (cIsi .lst (cVar 1)))) (sSeq (sIf (cOrT (cTest (cBin gNe (cIsi .tup (cVar 1)) (cIsi .tup (cVar 0)))) (cTest (cBin gNe (cIsi .lst (cVar 1)) (cIsi .lst (cVar 0))))) (sRet (cK (.bl false))) (sNil))
  (sSeq (sIf (cTest (cBin gNe (cCall (one gLen) (cArgs [cVar 0])) (cCall (one gLen) (cArgs [cVar 1])))) (sRet (cK (.bl false))) (sNil))
  (sSeq (sFor (.nm 2) (cRng1 (cArgs [cCall (one gLen) (cArgs [cVar 1])])) (sIf (cNotT (cTru (cCall (fun ds => if ds.length = 2 then c_same ds else M.no) (cArgs [cBin gIx (cVar 0) (cVar 2), cBin gIx (cVar 1) (cVar 2)])))) (sRet (cK (.bl false))) (sNil)))
  (sRet (cK (.bl true)))))) (sNil))
  (sSeq (sIf (cTest (cBin gIsN (cVar 1) (cK .non))) (sRet (cBin gIsN (cVar 0) (cK .non))) (sNil))
  (sSeq (sIf (cTru (cIsi .bl (cVar 1))) (sRet (cAnd (cIsi .bl (cVar 0)) (cBin gEq (cVar 0) (cVar 1)))) (sNil))
  (sSeq (sIf (cTru (cIsi .int (cVar 1))) (sRet (cAnd (cIsi .int (cVar 0)) (cAnd (cNot (cIsi .bl (cVar 0))) (cBin gEq (cVar 0) (cVar 1))))) (sNil))
  (sRet (cAnd (cIsi .str (cVar 0)) (cBin gEq (cVar 0) (cVar 1)))))))

end Lw
def PoolOk (d : D) : Prop := ∃ (cs : List Int) (i : Nat) (x k s : Int), d = .lst [.lst (cs.map .int), .int i, .int x, .int k, .int s]
def PoolSpec (f : List D → M D) : Prop := ∀ (ns : List Int), ∃ P, PoolOk P ∧ f [.lst (ns.map .int)] [] [] = .ok (.ref 0) [P]
def SpreadSpec (f : List D → M D) : Prop := ∀ (i : Int) (ro w : List D), ∃ v : Int, f [.int i] ro w = .ok (.int v) w
def DrawSpec (f : List D → M D) : Prop := ∀ (P : D) (r : List D) (m : Int), PoolOk P → 0 < m → m < 1073741824 → ∃ (v : Int) (P' : D), f [.ref 0, .int m] [] (P :: r) = .ok (.int v) (P' :: r) ∧ 0 ≤ v ∧ v < m ∧ PoolOk P'
namespace Lw
theorem pool_loop {ro w : List D} {a : Option D} : ∀ (ns : List Int) (s : Int) (c : Option D), ∃ (s' : Int) (c' : Option D),
    forL (.nm 2) (sSet 1 (cBin gMod (cCall (one gInt) (cArgs [cBin gAdd (cBin gMul (cVar 1) (cK (.int 31))) (cVar 2)])) (cK (.int 1000003)))) (ns.map .int) [a, some (.int s), c] ro w = .go .nx [a, some (.int s'), c'] w
  | [], s, c => ⟨s, c, rfl⟩
  | n :: ns, s, c => by
    obtain ⟨s', c', h⟩ := pool_loop (ro := ro) (w := w) (a := a) ns ((s * 31 + n) % 1000003) (some (.int n))
    refine ⟨s', c', ?_⟩
    rw [← h]
    simp
theorem pool_ok : PoolSpec (runDef 1 3 hPool) := by
  intro ns
  obtain ⟨s, c, h⟩ := pool_loop (ro := []) (w := []) (a := some (.lst (ns.map .int))) (cut ns none (some 63)) 7 none
  refine ⟨_, ⟨ns, 0, 0, 0, s, rfl⟩, ?_⟩
  rw [x_def]
  unfold hPool
  simp [x_for, cut_map, h]
theorem spread_ok : SpreadSpec (runDef 1 4 hSpread) := by
  intro i ro w
  refine ⟨?v, ?_⟩
  rotate_left
  · rw [x_def]
    unfold hSpread
    simp [x_for, rng1_int, rngD_nat, List.range_succ]
    rfl
end Lw
@[simp] theorem atI_lit {α : Type} {xs : List α} {n : Nat} : L2.atI xs (no_index (OfNat.ofNat n : Int)) = xs[n]? := atI_nat
theorem ixN_nat {m n : Nat} : L2.ixN m (n : Int) = if n < m then some n else none := by
  unfold L2.ixN
  rw [if_pos (Int.natCast_nonneg n)]
  by_cases h : n < m
  · rw [if_pos h, if_pos (Int.ofNat_lt.mpr h)]
    rfl
  · rw [if_neg h, if_neg (fun q => h (Int.ofNat_lt.mp q))]
@[simp] theorem ixN_lit {m n : Nat} : L2.ixN m (no_index (OfNat.ofNat n : Int)) = if n < m then some n else none := ixN_nat
@[simp] theorem put_0 {k : Nat} {v : D} {ds r : List D} : gPut v (.ref 0) (.int (no_index (OfNat.ofNat k : Int))) [] (.lst ds :: r) = if k < ds.length then .ok .non (.lst (ds.set k v) :: r) else .no := by
  unfold gPut mMod
  by_cases h : k < ds.length <;> simp [h]
@[simp] theorem see_0 {d : D} {r : List D} : see [] (d :: r) (.ref 0) = d := rfl
namespace Lw
/-- the end of a draw -/
theorem draw_end {i : Nat} {x k s m : Int} {cs : List Int} {o : Option D} {r : List D} (h0 : 0 < m) (h1 : m < 1073741824) : ∃ (v : Int) (P' : D), OS.fin ((sSeq (sPut (cVar 0) (cK (.int 3)) (cBin gAdd (cBin gIx (cVar 0) (cK (.int 3))) (cK (.int 1))))
  (sSeq (sIf (cTest (cBin gLe (cBin gIx (cVar 0) (cK (.int 2))) (cK (.int 0)))) (sSeq (sSet 4 (cBin gMod (cCall (one gInt) (cArgs [cBin gAdd (cBin gAdd (cBin gMul (cBin gIx (cVar 0) (cK (.int 4))) (cK (.int 48271))) (cBin gMul (cBin gIx (cVar 0) (cK (.int 3))) (cK (.int 69621)))) (cK (.int 1))])) (cK (.int 2147483647))))
  (sSeq (sSet 4 (cBin gMod (cCall (one gInt) (cArgs [cBin gAdd (cBin gMul (cVar 4) (cK (.int 16807))) (cBin gIx (cVar 0) (cK (.int 3)))])) (cK (.int 2147483629))))
  (sRet (cBin gMod (cBin gDiv (cVar 4) (cK (.int 5))) (cVar 1))))) (sNil))
  (sSeq (sSet 2 (cBin gMod (cCall (one gInt) (cArgs [cBin gIx (cVar 0) (cK (.int 2))])) (cVar 1)))
  (sSeq (sPut (cVar 0) (cK (.int 2)) (cBin gDiv (cBin gIx (cVar 0) (cK (.int 2))) (cVar 1)))
  (sRet (cVar 2)))))) [some (.ref 0), some (.int m), none, o, none] [] (.lst [.lst (cs.map .int), .int i, .int x, .int k, .int s] :: r)) = .ok (.int v) (P' :: r) ∧ 0 ≤ v ∧ v < m ∧ PoolOk P' := by
  have h2 : m.natAbs < 1073741824 := by omega
  by_cases hx : x ≤ 0
  · exact ⟨((s * 48271 + (k + 1) * 69621 + 1) % 2147483647 * 16807 + (k + 1)) % 2147483629 / 5 % m, .lst [.lst (cs.map .int), .int i, .int x, .int (k + 1), .int s], by simp [hx, h0], Int.emod_nonneg _ (by omega), Int.emod_lt_of_pos _ h0, ⟨_, _, _, _, _, rfl⟩⟩
  · exact ⟨x % m, .lst [.lst (cs.map .int), .int i, .int (x / m), .int (k + 1), .int s], by simp [hx, h0, h2], Int.emod_nonneg _ (by omega), Int.emod_lt_of_pos _ h0, ⟨_, _, _, _, _, rfl⟩⟩
theorem draw_ok {c : List D → M D} (hc : SpreadSpec c) : DrawSpec (runDef 2 5 (hDraw c)) := by
  intro P r m ⟨cs, i, x, k, s, hP⟩ h0 h1
  subst hP
  have hl : [D.ref 0, D.int m].length = 2 := rfl
  rw [x_def, if_pos hl]
  unfold hDraw
  rw [x_seq]
  by_cases h : x ≤ 0 ∧ i < cs.length
  · obtain ⟨hx, hi⟩ := h
    obtain ⟨v, hv⟩ := hc cs[i] [] (.lst [.lst (cs.map .int), .int ((i : Int) + 1), .int cs[i], .int k, .int s] :: r)
    by_cases hb : cs[i] < 1000000000000000000
    · obtain ⟨v', P', h1, h2⟩ := draw_end (i := i + 1) (x := v) (k := k) (s := s) (m := m) (cs := cs) (o := some (.int cs[i])) (r := r) h0 h1
      refine ⟨v', P', ?_, h2⟩
      rw [← h1]
      simp [hx, hi, hb, hv, atI_nat]
    · obtain ⟨v', P', h1, h2⟩ := draw_end (i := i + 1) (x := cs[i]) (k := k) (s := s) (m := m) (cs := cs) (o := some (.int cs[i])) (r := r) h0 h1
      refine ⟨v', P', ?_, h2⟩
      rw [← h1]
      simp [hx, hi, hb, atI_nat]
  · obtain ⟨v', P', h1, h2⟩ := draw_end (i := i) (x := x) (k := k) (s := s) (m := m) (cs := cs) (o := none) (r := r) h0 h1
    refine ⟨v', P', ?_, h2⟩
    rw [← h1]
    by_cases hx : x ≤ 0
    · have hi : ¬ i < cs.length := fun q => h ⟨hx, q⟩
      simp [hx, hi]
    · simp [hx]
end Lw
/-! ### more of what is asked -/
def inV (o : Option Bool) (w : List D) : Out D := match o with
  | some b => .ok (.bl b) w
  | none => .no
@[simp] theorem inV_s {b : Bool} {w : List D} : inV (some b) w = .ok (.bl b) w := rfl
theorem x_inV {d e : D} {ro w : List D} : gIn d e ro w = inV (inD d e) w := by
  unfold gIn inV
  cases inD d e <;> rfl
@[simp] theorem in_tup_int {i : Int} {ds : List D} {ro w : List D} : gIn (.int i) (.tup ds) ro w = inV (if ds.all D.sc = true then some (ds.any fun d => d.eqs (.int i)) else none) w := by
  rw [x_inV]
  simp [inD, D.sc]
@[simp] theorem in_tup_str {i : Str} {ds : List D} {ro w : List D} : gIn (.str i) (.tup ds) ro w = inV (if ds.all D.sc = true then some (ds.any fun d => d.eqs (.str i)) else none) w := by
  rw [x_inV]
  simp [inD, D.sc]
@[simp] theorem sc_int {i : Int} : (D.int i).sc = true := rfl
@[simp] theorem sc_str {i : Str} : (D.str i).sc = true := rfl
@[simp] theorem eqs_int {i j : Int} : (D.int i).eqs (.int j) = decide (i = j) := Bool.beq_eq_decide_eq _ _
@[simp] theorem eqs_str {i j : Str} : (D.str i).eqs (.str j) = decide (i = j) := Bool.beq_eq_decide_eq _ _
def pqr (x : Str) : Prop := x = "p" ∨ x = "q" ∨ x = "r"
theorem rng1_nat {n : Nat} {ro w : List D} (h : n ≤ 4611686018427387903) : gRng1 [.int (n : Int)] ro w = .ok (rngD 0 n) w := by
  rw [rng1_int, if_pos (by omega)]
  rfl
namespace Lw
end Lw
end Fx
namespace Fx
open PySem PySem.Spec L2
namespace Lw
end Lw
end Fx
namespace Fx
open PySem PySem.Spec L2
/-! ### _law_same on the same data -/
mutual
def D.smy : D → Bool
  | .non => true
  | .bl _ => true
  | .int _ => true
  | .str x => PyData.strOk x
  | .tup ds => decide (ds.length ≤ 4611686018427387903) && D.smys ds
  | .lst ds => decide (ds.length ≤ 4611686018427387903) && D.smys ds
  | _ => false
def D.smys : List D → Bool
  | [] => true
  | d :: ds => d.smy && D.smys ds
end
theorem smys_iff {ds : List D} : D.smys ds = true ↔ ∀ d ∈ ds, d.smy = true := by
  induction ds with
  | nil => simp [D.smys]
  | cons d ds ih => simp [D.smys, ih]
theorem Fm.smy : ∀ φ : Fm, φ.Over (fun x => PyData.strOk x = true) → φ.toD.smy = true
  | .fal, _ => by simp [Fm.toD, D.smy, D.smys]
  | .var _, h => by
    have h' := h
    simp only [Fm.Over] at h'
    simp [Fm.toD, D.smy, D.smys, h']
  | .imp a b, h => by simp [Fm.toD, D.smy, D.smys, a.smy h.1, b.smy h.2]
  | .and a b, h => by simp [Fm.toD, D.smy, D.smys, a.smy h.1, b.smy h.2]
  | .or a b, h => by simp [Fm.toD, D.smy, D.smys, a.smy h.1, b.smy h.2]
  | .box a, h => by simp [Fm.toD, D.smy, D.smys, Fm.smy a h]
def SameSpec (n : Nat) (f : List D → M D) : Prop := ∀ (d : D) (ro w : List D), d.smy = true → d.dp ≤ n → f [d, d] ro w = .ok (.bl true) w
@[simp] theorem atI_nat' {α : Type} {xs : List α} {i : Nat} : L2.atI xs (i : Int) = xs[i]? := atI_nat
namespace Lw
theorem same_loop {c : List D → M D} {n : Nat} (hc : SameSpec n c) {D' : D} {ds : List D} (hD : D' = .tup ds ∨ D' = .lst ds) {ro w : List D} (h1 : ∀ d ∈ ds, d.smy = true) (h2 : ∀ d ∈ ds, d.dp ≤ n) : ∀ (is : List Nat) (o : Option D), (∀ i ∈ is, i < ds.length) → ∃ o', forL (.nm 2) (sIf (cNotT (cTru (cCall (fun ds => if ds.length = 2 then c ds else M.no) (cArgs [cBin gIx (cVar 0) (cVar 2), cBin gIx (cVar 1) (cVar 2)])))) (sRet (cK (.bl false))) (sNil)) (is.map fun (i : Nat) => .int (i : Int)) [some D', some D', o] ro w = .go .nx [some D', some D', o'] w
  | [], o, _ => ⟨o, rfl⟩
  | i :: is, o, h => by
    have hi := h i (by simp)
    obtain ⟨o', k⟩ := same_loop hc hD (ro := ro) (w := w) h1 h2 is (some (.int i)) (fun j hj => h j (by simp [hj]))
    refine ⟨o', ?_⟩
    have e : ds[i]? = some ds[i] := by simp [hi]
    have q := hc ds[i] ro w (h1 _ (by simp)) (h2 _ (by simp))
    rw [← k]
    rcases hD with rfl | rfl <;> simp [e, q]
theorem same_ok {n : Nat} {c : List D → M D} (hc : ∀ n', n = n' + 1 → SameSpec n' c) : SameSpec n (runDef 2 3 (hSame c)) := by
  intro d ro w h1 h2
  have hl : [d, d].length = 2 := rfl
  rw [x_def, if_pos hl]
  unfold hSame
  cases d with
  | non => simp [isTy]
  | bl b => simp [isTy]
  | int i => simp [isTy]
  | str x =>
    simp only [D.smy] at h1
    simp [isTy, eq_str h1 h1]
  | tup ds =>
    simp only [D.smy, Bool.and_eq_true, decide_eq_true_eq] at h1
    simp only [D.dp] at h2
    obtain ⟨n, rfl⟩ : ∃ m, n = m + 1 := ⟨n - 1, by omega⟩
    obtain ⟨o', k⟩ := same_loop (hc n rfl) (D' := .tup ds) (ds := ds) (.inl rfl) (ro := ro) (w := w) (smys_iff.mp h1.2) (dps_iff.mp (by omega)) (List.range ds.length) none (by simp)
    rw [← rngD_nat] at k
    simp [isTy, x_for, rng1_nat h1.1, k]
  | lst ds =>
    simp only [D.smy, Bool.and_eq_true, decide_eq_true_eq] at h1
    simp only [D.dp] at h2
    obtain ⟨n, rfl⟩ : ∃ m, n = m + 1 := ⟨n - 1, by omega⟩
    obtain ⟨o', k⟩ := same_loop (hc n rfl) (D' := .lst ds) (ds := ds) (.inr rfl) (ro := ro) (w := w) (smys_iff.mp h1.2) (dps_iff.mp (by omega)) (List.range ds.length) none (by simp)
    rw [← rngD_nat] at k
    simp [isTy, x_for, rng1_nat h1.1, k]
  | _ => simp [D.smy] at h1
end Lw
end Fx
/-! sum, max, min of whole numbers; default= -/
namespace Fx
open PySem PySem.Spec L2
def intsOf : List D → Option (List Int)
  | [] => some []
  | .int i :: r => (intsOf r).map (i :: ·)
  | _ => none
theorem intsOf_eq : ∀ {ds : List D} {ns : List Int}, intsOf ds = some ns → ds = ns.map .int
  | [], ns, h => by
    cases h
    rfl
  | d :: ds, ns, h => by
    cases d with
    | int i =>
      unfold intsOf at h
      cases e : intsOf ds with
      | none => rw [e] at h; cases h
      | some l =>
        rw [e] at h
        cases h
        rw [intsOf_eq e]
        rfl
    | _ => cases h
@[simp] theorem intsOf_map {ns : List Int} : intsOf (ns.map .int) = some ns := by
  induction ns with
  | nil => rfl
  | cons n ns ih => simp [intsOf, ih]
section
variable {C : Cfg} {ρ : Zn} {H : Hp}
theorem Reps.ints : ∀ {ns : List Int} {vs : List V}, Reps C ρ H (ns.map .int) vs → vs = ns.map V.int
  | [], vs, h => h
  | n :: ns, vs, ⟨v, r, e, h1, h2⟩ => by
    rw [e, show v = V.int n from h1, Reps.ints h2]
    rfl
def gSum : D → M D
  | .lst ds => match intsOf ds with
    | some ns => M.pure (.int ns.sum)
    | none => M.no
  | _ => M.no
def maxI : List Int → Int
  | [] => 0
  | n :: ns => ns.foldl max n
def gMax : D → M D
  | .lst ds => match intsOf ds with
    | some ns => if 0 < ns.length then M.pure (.int (maxI ns)) else M.no
    | none => M.no
  | _ => M.no
end

def rMaxD (K : PySem.W.Frag) : List V → List V → Hp → VK → Prop := fun xs zs H Q => ∃ (a : Addr) (ns : List Int) (d : V), xs = [V.ref a] ∧ zs = [d] ∧ SqL K H a (ns.map V.int) ∧ Q (if ns = [] then d else .int (maxI ns)) H
theorem reads_ints {h : Heap} : ∀ {ns : List Int} {us : List Value}, Vals (ns.map V.int) us → ReadsAll h us (ns.map .int) []
  | [], us, r => by
    cases r
    exact .nil
  | n :: ns, _, .cons h r => by
    obtain ⟨t, rfl⟩ := h
    exact .cons (as := []) (bs := []) (.int _ _) (reads_ints r)
theorem depth_ints : ∀ {ns : List Int}, PyData.depthAll (ns.map .int) = 0
  | [] => rfl
  | n :: ns => by
    have := @depth_ints ns
    simp [PyData.depthAll, PyData.depth, this]
theorem cf_maxD {X : Cx} (hc : X.calm = true) (hu : X.A.units + 65 < cLine) : CallRK X (.builtin "max") [Str.ofString "default"] (rMaxD X.K) := by
  intro pins s σ H xs zs us ws Q I r rz h
  obtain ⟨a, ns, d, rfl, rfl, hs, q⟩ := h
  obtain rfl := Vals.ref1 r
  obtain ⟨w1, rfl, e1⟩ := vals1 rz
  obtain ⟨its, rv, hl, _⟩ := I.list hs
  refine PySem.W.max_list_default (I.ok.hd hc) hl.isList (reads_ints rv) ⟨?_, ?_⟩ ?_ ?_ ?_
  · intro x hx y hy
    obtain ⟨i, _, rfl⟩ := List.mem_map.mp hx
    obtain ⟨j, _, rfl⟩ := List.mem_map.mp hy
    rfl
  · intro x hx
    obtain ⟨i, _, rfl⟩ := List.mem_map.mp hx
    intro e
    cases e
  · rw [depth_ints]
    omega
  · intro e h' tk hk
    rw [List.map_eq_nil_iff] at e
    rw [if_pos e] at q
    exact ⟨d, H, I.kept hk, e1, q⟩
  · intro y ys i v h' tk bs e hv hr hk
    cases ns with
    | nil => cases e
    | cons n ns =>
      cases e
      rw [if_neg (by simp)] at q
      rw [PySem.W.maxD_ints] at hr
      cases hr
      exact ⟨.int _, H, I.kept hk, ⟨_, rfl⟩, q⟩
def gMaxD (d z : D) : M D := match d with
  | .lst ds => match intsOf ds with
    | some ns => if ns = [] then M.pure z else M.pure (.int (maxI ns))
    | none => M.no
  | _ => M.no
def cMaxD (fa fb : EF) : EF := fun env => M.bind (fa env) fun d => M.bind (fb env) fun z => M.bind (M.see d) fun d => gMaxD d z
section
variable {X : Cx} {W : WX} {fa fb : EF} {e e2 : Expr} {p pos kpos : Pos}
theorem pf_maxD (hc : X.calm = true) (hu : X.A.units + 65 < cLine) (hg : Gl X "max") (hm : X.mg "max" = none) (ha : PE X e (tE (cfg X) W fa)) (hb : PE X e2 (tE (cfg X) W fb))
    (hs1 : starEach [e] X.env = (false, eval e X.env) :: starEach [] X.env := by rfl) (he : backTo pos (starEach [e] X.env) = (false, eval e X.env) :: backTo pos (starEach [] X.env) := by rfl) (hpl : (backTo pos (starEach [e] X.env)).any (·.1) = false := by rfl)
    (hall : (backToKw pos (keywordEach [⟨some "default", e2, kpos⟩] X.env)).all (·.1.isSome) = true := by rfl) (hnone : (backToKw pos (keywordEach [⟨some "default", e2, kpos⟩] X.env)).any (·.1.isNone) = false := by rfl) (hks : (backToKw pos (keywordEach [⟨some "default", e2, kpos⟩] X.env)).filterMap (·.1) = [Str.ofString "default"] := by rfl) :
    PE X (.Call (.Name "max" p) [e] [⟨some "default", e2, kpos⟩] pos) (tE (cfg X) W (cMaxD fa fb)) := by
  refine pe_imp (pe_callBK (cf_maxD hc hu) hg hm (by decide +kernel) (pa_cons ha pa_nil hs1) (pk_cons hb pk_nil) (by decide) (by decide) he hpl hall hnone hks) fun σ H Q ⟨ρ, env, ro, w, hS, hE, q⟩ => ?_
  refine tR_seq hS hE q fun d w1 v ρ1 H1 x1 s1 r1 q1 => ?_
  refine tR_seq s1 (hE.ext x1) q1 fun z w2 v2 ρ2 H2 x2 s2 r2 q2 => ?_
  have r1' := seen_of s2 (Rep.ext x2 d r1)
  have q3 : AfterR (cfg X) (Rep (cfg X)) W σ ρ2 H2 ro (gMaxD (see ro w2 d) z ro w2) Q := q2
  generalize see ro w2 d = d' at r1' q3
  cases d' with
  | lst ds =>
    obtain ⟨a, vs, rfl, h, r⟩ := r1'.lst
    unfold gMaxD at q3
    cases e : intsOf ds with
    | none => simp only [e] at q3; exact (show False from q3).elim
    | some ns =>
      simp only [e] at q3
      rw [intsOf_eq e] at r
      rw [Reps.ints r] at h
      refine ⟨a, ns, v2, rfl, rfl, h, ?_⟩
      by_cases c : ns = []
      · rw [if_pos c] at q3 ⊢
        exact ok_same s2 r2 q3
      · rw [if_neg c] at q3 ⊢
        exact ok_int s2 q3
  | _ => exact (show False from q3).elim
end
section
variable {fa fb : EF} {env : Fx.Env} {ro w : List D} {ns : List Int}
@[simp] theorem x_maxD : cMaxD fa fb env ro w = (fa env ro w).an fun d w1 => (fb env ro w1).an fun z w2 => gMaxD (see ro w2 d) z ro w2 := by
  show M.bind (fa env) _ ro w = _
  simp
@[simp] theorem maxD_ints {z : D} : gMaxD (.lst (ns.map .int)) z ro w = .ok (if ns = [] then z else .int (maxI ns)) w := by
  unfold gMaxD
  simp only [intsOf_map]
  by_cases c : ns = [] <;> simp [c]
@[simp] theorem max_ints (h : 0 < ns.length) : gMax (.lst (ns.map .int)) ro w = .ok (.int (maxI ns)) w := by
  unfold gMax
  simp [h]
@[simp] theorem sum_ints : gSum (.lst (ns.map .int)) ro w = .ok (.int ns.sum) w := by
  unfold gSum
  simp
end
end Fx
/-! Formulas taken apart; lists made of lists. -/
namespace Fx
open PySem PySem.Spec L2
section
variable {α : Type} {k : Nat} {fa : EF} {ta : Fx.Env → M Bool} {env : Fx.Env} {ro w : List D}
theorem comp_all {h g : α → D} : ∀ {l : List α}, (∀ a ∈ l, fa (env.set k (some (h a))) ro w = .ok (g a) w) → compR (.nm k) cYes fa env (l.map h) ro w = .ok (l.map g) w
  | [], _ => rfl
  | a :: l, H => by
    have ih := comp_all (h := h) (g := g) (l := l) fun b hb => H b (by simp [hb])
    simp [H a (by simp), ih]
theorem comp_filt {h g : α → D} {p : α → Bool} : ∀ {l : List α}, (∀ a ∈ l, ta (env.set k (some (h a))) ro w = .ok (p a) w) → (∀ a ∈ l, p a = true → fa (env.set k (some (h a))) ro w = .ok (g a) w) → compR (.nm k) ta fa env (l.map h) ro w = .ok ((l.filter p).map g) w
  | [], _, _ => rfl
  | a :: l, H, G => by
    have ih := comp_filt (h := h) (g := g) (p := p) (l := l) (fun b hb => H b (by simp [hb])) (fun b hb => G b (by simp [hb]))
    by_cases c : p a = true
    · simp [H a (by simp), G a (by simp) c, ih, c]
    · have c' : p a = false := by simpa using c
      simp [H a (by simp), ih, c']
end
theorem cut_tail {α : Type} {a : α} {r : List α} : cut (a :: r) (some 1) none = r := by
  unfold cut HT.sIx
  simp
@[simp] theorem see_fm {φ : Fm} {ro w : List D} : see ro w φ.toD = φ.toD := by cases φ <;> rfl
def Fm.tag : Fm → Str
  | .fal => "falsum"
  | .var _ => "var"
  | .imp _ _ => "implies"
  | .and _ _ => "and"
  | .or _ _ => "or"
  | .box _ => "box"
def Fm.parts : Fm → List Fm
  | .fal => []
  | .var _ => []
  | .imp a b => [a, b]
  | .and a b => [a, b]
  | .or a b => [a, b]
  | .box a => [a]
@[simp] theorem Fm.ix0 {φ : Fm} {ro w : List D} : gIx φ.toD (.int 0) ro w = .ok (.str φ.tag) w := by cases φ <;> simp [Fm.toD, Fm.tag]
@[simp] theorem Fm.tag_ok {φ : Fm} : PyData.strOk φ.tag = true := by cases φ <;> exact ok_lit
theorem Fm.leaf {φ : Fm} : φ.parts = [] ↔ (φ.tag = "var" ∨ φ.tag = "falsum") := by cases φ <;> simp [Fm.parts, Fm.tag, ofString_inj]
theorem Fm.sl1 {φ : Fm} {ro w : List D} (h : φ.parts ≠ []) : gSl φ.toD (some 1) none ro w = .ok (.tup (φ.parts.map Fm.toD)) w := by cases φ <;> simp [Fm.toD, Fm.parts, cut_tail] at h ⊢
@[simp] theorem Fm.tag_box {φ : Fm} : φ.tag = "box" ↔ ∃ a, φ = .box a := by cases φ <;> simp [Fm.tag, ofString_inj]
@[simp] theorem Fm.tag_var {φ : Fm} : φ.tag = "var" ↔ ∃ a, φ = .var a := by cases φ <;> simp [Fm.tag, ofString_inj]
theorem Fm.part_ht {φ ψ : Fm} (h : ψ ∈ φ.parts) : ψ.ht < φ.ht := by
  cases φ <;> simp [Fm.parts] at h <;> (try rcases h with rfl | rfl) <;> (try subst h) <;> simp only [Fm.ht] <;> omega
def Fm.sz : Fm → Nat
  | .fal => 1
  | .var _ => 1
  | .imp a b => a.sz + b.sz + 1
  | .and a b => a.sz + b.sz + 1
  | .or a b => a.sz + b.sz + 1
  | .box a => a.sz + 1
theorem Fm.sz_lt : ∀ φ : Fm, φ.sz < 2 ^ φ.ht
  | .fal => by decide
  | .var _ => by simp [Fm.sz, Fm.ht]
  | .imp a b => by
    have h1 := a.sz_lt
    have h2 := b.sz_lt
    have h3 : 2 ^ a.ht ≤ 2 ^ max a.ht b.ht := Nat.pow_le_pow_right (by decide) (by omega)
    have h4 : 2 ^ b.ht ≤ 2 ^ max a.ht b.ht := Nat.pow_le_pow_right (by decide) (by omega)
    simp only [Fm.sz, Fm.ht, Nat.pow_succ]
    omega
  | .and a b => by
    have h1 := a.sz_lt
    have h2 := b.sz_lt
    have h3 : 2 ^ a.ht ≤ 2 ^ max a.ht b.ht := Nat.pow_le_pow_right (by decide) (by omega)
    have h4 : 2 ^ b.ht ≤ 2 ^ max a.ht b.ht := Nat.pow_le_pow_right (by decide) (by omega)
    simp only [Fm.sz, Fm.ht, Nat.pow_succ]
    omega
  | .or a b => by
    have h1 := a.sz_lt
    have h2 := b.sz_lt
    have h3 : 2 ^ a.ht ≤ 2 ^ max a.ht b.ht := Nat.pow_le_pow_right (by decide) (by omega)
    have h4 : 2 ^ b.ht ≤ 2 ^ max a.ht b.ht := Nat.pow_le_pow_right (by decide) (by omega)
    simp only [Fm.sz, Fm.ht, Nat.pow_succ]
    omega
  | .box a => by
    have h1 := a.sz_lt
    simp only [Fm.sz, Fm.ht, Nat.pow_succ]
    omega
/-- all formulas in it, with repetitions -/
def Fm.all : Fm → List Fm
  | .fal => [.fal]
  | .var x => [.var x]
  | .imp a b => .imp a b :: (a.all ++ b.all)
  | .and a b => .and a b :: (a.all ++ b.all)
  | .or a b => .or a b :: (a.all ++ b.all)
  | .box a => .box a :: a.all
theorem Fm.all_len : ∀ φ : Fm, φ.all.length = φ.sz
  | .fal => rfl
  | .var _ => rfl
  | .imp a b => by simp [Fm.all, Fm.sz, a.all_len, b.all_len]
  | .and a b => by simp [Fm.all, Fm.sz, a.all_len, b.all_len]
  | .or a b => by simp [Fm.all, Fm.sz, a.all_len, b.all_len]
  | .box a => by simp [Fm.all, Fm.sz, a.all_len]
theorem Fm.all_parts (φ : Fm) : φ.all = φ :: φ.parts.flatMap Fm.all := by cases φ <;> simp [Fm.all, Fm.parts]
end Fx
/-! Defs as values. -/
namespace Fx
open PySem PySem.Spec L2
section
variable {X : Cx} {W : WX} {n np i : Nat} {x : Str} {g : List D → M D} {p pos : Pos} {e : Expr} {es : List Expr} {fs : Fx.Env → M (List D)}
/-- the defs that a name may hold -/
abbrev Tab := List (Str × Nat × (List D → M D))
def Tab.get (T : Tab) (x : Str) : Option (List D → M D) := match T.find? (fun q => q.1 == x) with
  | some (_, np, g) => some fun ds => if ds.length = np then g ds else M.no
  | none => none
def TabOk (X : Cx) (n : Nat) (T : Tab) : Prop := ∀ q ∈ T, CallX X n q.1 q.2.2 q.2.1
theorem tab_nil : TabOk X n [] := fun q h => by cases h
theorem tab_cons {T : Tab} (h : CallX X n x g np) (t : TabOk X n T) : TabOk X n ((x, np, g) :: T) := fun q hq => by
  rcases List.mem_cons.mp hq with rfl | hq
  · exact h
  · exact t q hq
end
@[simp] theorem see_fn {x : Str} {ro w : List D} : see ro w (.fn x) = .fn x := rfl
end Fx
/-! What the program's and the laws' functions of formulas do. -/
namespace Fx
open PySem PySem.Spec L2
def F_parts : SF :=
  sRet (cIf (cTest (cBin gIn (cBin gIx (cVar 0) (cK (.int 0))) (cTup (cArgs [cK (.str "var"), cK (.str "falsum")])))) (cTup (cArgs [])) (cSl (cVar 0) (cPart (cK (.int 1))) (cNoPart)))

def F_law_all (c_law_all : List D → M D) (c_law_parts : List D → M D) : SF :=
  sSeq (sSet 1 (cLst (cArgs [cVar 0])))
  (sSeq (sFor (.nm 2) (cSeq (cCall (fun ds => if ds.length = 1 then c_law_parts ds else M.no) (cArgs [cVar 0]))) (sSet 1 (cBin gAdd (cVar 1) (cCall (fun ds => if ds.length = 1 then c_law_all ds else M.no) (cArgs [cVar 2])))))
  (sRet (cVar 1)))

def F_height (c_height : List D → M D) (c_parts : List D → M D) : SF :=
  sRet (cBin gAdd (cK (.int 1)) (cMaxD (cComp (.nm 1) [1] (cSeq (cCall (fun ds => if ds.length = 1 then c_parts ds else M.no) (cArgs [cVar 0]))) (cYes) (cCall (fun ds => if ds.length = 1 then c_height ds else M.no) (cArgs [cVar 1])) kStill) (cK (.int 0))))

namespace Fo
theorem leaf_t {φ : Fm} (h : φ.parts = []) : (Str.ofString "var" = φ.tag ∨ Str.ofString "falsum" = φ.tag) = True := eq_true (by
  rcases Fm.leaf.mp h with h | h
  · exact .inl h.symm
  · exact .inr h.symm)
theorem leaf_f {φ : Fm} (h : ¬ φ.parts = []) : (Str.ofString "var" = φ.tag ∨ Str.ofString "falsum" = φ.tag) = False := eq_false (by
  intro q
  apply h
  apply Fm.leaf.mpr
  rcases q with q | q
  · exact .inl q.symm
  · exact .inr q.symm)
theorem small_parts {φ : Fm} : φ.parts.length ≤ sizeLine := by
  have : sizeLine = 16777216 := rfl
  cases φ <;> simp [Fm.parts, this]
theorem map_int {l : List Fm} {f : Fm → Int} : l.map (fun ψ => D.int (f ψ)) = (l.map f).map .int := by simp
def top (l : List Int) : Int := if l = [] then 0 else maxI l
theorem ht_eq (φ : Fm) : (φ.ht : Int) = 1 + top (φ.parts.map fun ψ => (ψ.ht : Int)) := by
  cases φ <;> simp [Fm.parts, Fm.ht, top, maxI] <;> omega
def md : Fm → Nat
  | .fal => 0
  | .var _ => 0
  | .imp a b => max (md a) (md b)
  | .and a b => max (md a) (md b)
  | .or a b => max (md a) (md b)
  | .box a => md a + 1
theorem maxD_0 {l : List Int} {ro w : List D} : gMaxD (.lst (l.map .int)) (.int 0) ro w = .ok (.int (top l)) w := by
  rw [maxD_ints]
  unfold top
  by_cases h : l = [] <;> simp [h]
end Fo
open Fo
def F1 (g : Fm → D) (k : Nat) (f : List D → M D) : Prop := ∀ (φ : Fm) (ro w : List D), φ.ht ≤ k → f [φ.toD] ro w = .ok (g φ) w
abbrev gP (φ : Fm) : D := .tup (φ.parts.map Fm.toD)
abbrev gL (φ : Fm) : D := .lst (φ.parts.map Fm.toD)
abbrev gHt (φ : Fm) : D := .int φ.ht
abbrev gAl (φ : Fm) : D := .lst (φ.all.map Fm.toD)
namespace Pw
theorem parts_ok {k : Nat} : F1 gP k (runDef 1 1 F_parts) := by
  intro φ ro w _
  by_cases h : φ.parts = []
  · simp [x_def, F_parts, leaf_t h, h]
  · simp [x_def, F_parts, leaf_f h, Fm.sl1 h]
theorem step {g : Fm → D} {f : Fm → Int} {c : List D → M D} {k : Nat} {φ : Fm} {ro w : List D} {env : Fx.Env} {i : Nat} (hf : ∀ ψ, g ψ = .int (f ψ)) (hi : i < env.length) (hk : φ.ht ≤ k + 1) (hc : F1 g k c) : compR (.nm i) cYes (cCall (fun ds => if ds.length = 1 then c ds else M.no) (cArgs [cVar i])) env (φ.parts.map Fm.toD) ro w = .ok ((φ.parts.map f).map .int) w := by
  rw [← map_int]
  refine comp_all fun ψ hψ => ?_
  have h := Fm.part_ht hψ
  have := hc ψ ro w (by omega)
  simp [hi, this, hf]
theorem height_ok {k : Nat} {c p : List D → M D} (hp : F1 gP k p) (hc : ∀ k', k = k' + 1 → F1 gHt k' c) : F1 gHt k (runDef 1 2 (F_height c p)) := by
  intro φ ro w hk
  obtain ⟨m, rfl⟩ : ∃ m, k = m + 1 := ⟨k - 1, by have := φ.ht_pos; omega⟩
  have s := step (φ := φ) (ro := ro) (w := w) (env := [some φ.toD, none]) (i := 1) (f := fun ψ => (ψ.ht : Int)) (fun _ => rfl) (Nat.lt_succ_self 1) hk (hc m rfl)
  have h1 := hp φ ro w hk
  simp [x_def, F_height, x_comp, h1, small_parts, wipeE, s, maxD_0, gHt, ht_eq φ, -List.map_map, -maxD_ints]
theorem all_loop {n : Nat} {c : List D → M D} {o : Option D} {ro w : List D} : ∀ (l : List Fm) (acc : List Fm) (o' : Option D), (∀ ψ ∈ l, c [ψ.toD] ro w = .ok (gAl ψ) w) → acc.length + (l.flatMap Fm.all).length ≤ sizeLine → ∃ o'',
    forL (.nm 2) (sSet 1 (cBin gAdd (cVar 1) (cCall (fun ds => if ds.length = 1 then c ds else M.no) (cArgs [cVar 2])))) (l.map Fm.toD) [o, some (.lst (acc.map Fm.toD)), o'] ro w = .go .nx [o, some (.lst ((acc ++ l.flatMap Fm.all).map Fm.toD)), o''] w
  | [], acc, o', _, _ => ⟨o', by simp⟩
  | φ :: l, acc, o', h, hl => by
    simp only [List.flatMap_cons, List.length_append] at hl
    obtain ⟨o'', k⟩ := all_loop (n := n) l (acc ++ φ.all) (some φ.toD) (fun ψ hψ => h ψ (by simp [hψ])) (by rw [List.length_append]; omega)
    refine ⟨o'', ?_⟩
    have h1 := h φ (by simp)
    have h2 : acc.length + φ.all.length ≤ sizeLine := by omega
    have e : (acc ++ (φ :: l).flatMap Fm.all) = (acc ++ φ.all) ++ l.flatMap Fm.all := by simp
    rw [e, ← k]
    simp [h1, h2]
theorem two_pow {k : Nat} (h : k ≤ 24) : 2 ^ k ≤ sizeLine := Nat.pow_le_pow_right (by decide) h
/-- for formulas of a height of at most 24 -/
theorem all_ok {k : Nat} (h24 : k ≤ 24) {c p : List D → M D} (hp : F1 gL k p) (hc : ∀ k', k = k' + 1 → F1 gAl k' c) : F1 gAl k (runDef 1 3 (F_law_all c p)) := by
  intro φ ro w hk
  obtain ⟨m, rfl⟩ : ∃ m, k = m + 1 := ⟨k - 1, by have := φ.ht_pos; omega⟩
  have hs : φ.sz ≤ sizeLine := by
    have h1 := φ.sz_lt
    have h2 : 2 ^ φ.ht ≤ 2 ^ (m + 1) := Nat.pow_le_pow_right (by decide) hk
    have h3 := two_pow h24
    omega
  have hq := φ.all_parts
  have hl := φ.all_len
  rw [hq, List.length_cons] at hl
  obtain ⟨o'', k⟩ := all_loop (n := 0) (c := c) (o := some φ.toD) (ro := ro) (w := w) φ.parts [φ] none (fun ψ hψ => hc m rfl ψ ro w (by have := Fm.part_ht hψ; omega)) (by simp only [List.length_cons, List.length_nil]; omega)
  simp only [List.map_cons, List.map_nil] at k
  have h1 := hp φ ro w hk
  simp [x_def, F_law_all, h1, x_for, k, gAl]
  rw [hq]
  simp
end Pw
/-! negation -/
def Fm.not (a : Fm) : Fm := .imp a .fal
end Fx
/-! Dicts with numbers and texts as keys. -/
namespace Fx
open PySem PySem.Spec L2
def dget : List D → List D → D → Option D
  | q :: ks, x :: xs, k => if keyOf q = keyOf k then some x else dget ks xs k
  | _, _, _ => none
def dhas (ks : List D) (k : D) : Bool := ks.any fun q => decide (keyOf q = keyOf k)
def dputX : List D → List D → D → D → List D
  | q :: ks, x :: xs, k, v => (if keyOf q = keyOf k then v else x) :: dputX ks xs k v
  | _, _, _, _ => []
/-- the dict behind d[k] = v -/
def dput (ks xs : List D) (k v : D) : D := if dhas ks k = true then .dic ks (dputX ks xs k v) else .dic (ks ++ [k]) (xs ++ [v])
section
variable {C : Cfg} {ρ : Zn} {H : Hp}
theorem key_rep {k : D} {y : V} {κ : Key} (h : keyOf k = some κ) (r : Rep C ρ H k y) : y = kV κ := by
  cases k with
  | int i =>
    cases h
    exact r
  | str i =>
    cases h
    exact r
  | _ => cases h
theorem dget_rep {k : D} {κ : Key} (hk : keyOf k = some κ) : ∀ {kvs : List (Key × V)} {ks xs : List D}, ks.map keyOf = kvs.map (fun p => some p.1) → Reps C ρ H xs (kvs.map (·.2)) →
    (∀ d, dget ks xs k = some d → ∃ v, valV kvs κ = some v ∧ Rep C ρ H d v) ∧ (dget ks xs k = none → valV kvs κ = none)
  | [], ks, xs, h1, h2 => by
    have e1 : ks = [] := by simpa using h1
    subst e1
    exact ⟨fun d e => (by cases e), fun _ => rfl⟩
  | p :: kvs, ks, xs, h1, h2 => by
    cases ks with
    | nil => simp at h1
    | cons q ks =>
      cases xs with
      | nil => simp [Reps] at h2
      | cons x xs =>
        obtain ⟨v, r, e, g1, g2⟩ := h2
        simp only [List.map_cons, List.cons.injEq] at e h1
        obtain ⟨e1, e2⟩ := e
        subst e1 e2
        have ih := dget_rep hk (kvs := kvs) (ks := ks) (xs := xs) h1.2 g2
        unfold dget
        rw [h1.1, hk]
        by_cases c : p.1 = κ
        · rw [if_pos (by rw [c]), valV_pos c]
          exact ⟨fun d e => (by cases e; exact ⟨_, rfl, g1⟩), fun e => (by cases e)⟩
        · rw [if_neg (by simpa using c), valV_neg c]
          exact ih
theorem dhas_rep {k : D} {κ : Key} (hk : keyOf k = some κ) {kvs : List (Key × V)} {ks : List D} (h : ks.map keyOf = kvs.map (fun p => some p.1)) : dhas ks k = kvs.any fun kv => decide (kv.1 = κ) := by
  unfold dhas
  have e1 : (ks.any fun q => decide (keyOf q = keyOf k)) = (ks.map keyOf).any fun o => decide (o = keyOf k) := by rw [List.any_map]; rfl
  rw [e1, h, List.any_map, hk]
  congr 1
  funext p
  simp
theorem dputX_rep {k : D} {κ : Key} (hk : keyOf k = some κ) {dv : D} {v : V} (rv : Rep C ρ H dv v) : ∀ {kvs : List (Key × V)} {ks xs : List D}, ks.map keyOf = kvs.map (fun p => some p.1) → Reps C ρ H xs (kvs.map (·.2)) →
    Reps C ρ H (dputX ks xs k dv) ((kvs.map fun kv => if kv.1 = κ then (kv.1, v) else kv).map (·.2))
  | [], ks, xs, h1, h2 => by
    have e1 : ks = [] := by simpa using h1
    subst e1
    exact rfl
  | p :: kvs, ks, xs, h1, h2 => by
    cases ks with
    | nil => simp at h1
    | cons q ks =>
      cases xs with
      | nil => simp [Reps] at h2
      | cons x xs =>
        obtain ⟨v', r, e, g1, g2⟩ := h2
        simp only [List.map_cons, List.cons.injEq] at e h1
        obtain ⟨e1, e2⟩ := e
        subst e1 e2
        have ih := dputX_rep hk rv (kvs := kvs) (ks := ks) (xs := xs) h1.2 g2
        unfold dputX
        rw [h1.1, hk]
        by_cases c : p.1 = κ
        · rw [if_pos (by rw [c])]
          exact ⟨v, _, by simp only [List.map_cons, if_pos c], rv, ih⟩
        · rw [if_neg (by simpa using c)]
          exact ⟨p.2, _, by simp only [List.map_cons, if_neg c], g1, ih⟩
/-- the parts of a dict behind d[k] = v -/
def RepD (C : Cfg) (ρ : Zn) (H : Hp) (d : D) (kvs : List (Key × V)) : Prop := ∃ ks xs, d = .dic ks xs ∧ ks.map keyOf = kvs.map (fun p => some p.1) ∧ Reps C ρ H xs (kvs.map (·.2))
theorem dput_rep {k : D} {κ : Key} (hk : keyOf k = some κ) {dv : D} {v : V} (rv : Rep C ρ H dv v) {kvs : List (Key × V)} {ks xs : List D} (h1 : ks.map keyOf = kvs.map (fun p => some p.1)) (h2 : Reps C ρ H xs (kvs.map (·.2))) : RepD C ρ H (dput ks xs k dv) (putK kvs κ v) := by
  unfold dput putK
  rw [dhas_rep hk h1]
  by_cases c : (kvs.any fun kv => decide (kv.1 = κ)) = true
  · rw [if_pos c, if_pos c]
    refine ⟨ks, _, rfl, ?_, dputX_rep hk rv h1 h2⟩
    rw [h1, List.map_map]
    apply List.map_congr_left
    intro p _
    simp only [Function.comp]
    split <;> rfl
  · rw [if_neg c, if_neg c]
    refine ⟨ks ++ [k], xs ++ [dv], rfl, ?_, ?_⟩
    · simp [h1, hk]
    · rw [List.map_append]
      exact Reps.append h2 (Reps.one rv)
theorem RepD.ext {ρ' : Zn} {H' : Hp} {d : D} {kvs : List (Key × V)} (x : Ext ρ ρ' H H') (h : RepD C ρ H d kvs) : RepD C ρ' H' d kvs := by
  obtain ⟨ks, xs, e, h1, h2⟩ := h
  exact ⟨ks, xs, e, h1, Reps.ext x xs h2⟩
end
section
variable {C : Cfg} {W : WX} {σ : L2.St} {ρ : Zn} {H : Hp} {ro w : List D} {Q : VK}
end
def gDGet (o k : D) : M D := match o with
  | .dic ks xs => match dget ks xs k with
    | some d => if (keyOf k).isSome = true then M.pure d else M.no
    | none => M.no
  | _ => M.no
def gDGetD (o k z : D) : M D := match o with
  | .dic ks xs => if (keyOf k).isSome = true then M.pure ((dget ks xs k).getD z) else M.no
  | _ => M.no
def gDIn (o k : D) : M D := match o with
  | .dic ks _ => if (keyOf k).isSome = true then M.pure (.bl (dhas ks k)) else M.no
  | _ => M.no
def gDNotIn (o k : D) : M D := match o with
  | .dic ks _ => if (keyOf k).isSome = true then M.pure (.bl (!dhas ks k)) else M.no
  | _ => M.no
def isDic : D → Bool
  | .dic _ _ => true
  | _ => false
/-- d[k] = v -/
def gDPut (v o k : D) : M D := match o with
  | .ref n => fun ro w => if n < ro.length then .no else match w[n - ro.length]? with
    | some (.dic ks xs) => if (keyOf k).isSome = true ∧ ks.length < sizeLine then .ok .non (w.set (n - ro.length) (dput ks xs k v)) else .no
    | _ => .no
  | _ => M.no
def cDNew : EF := fun _ => mNew (.dic [] [])
def cDGet (fo fk : EF) : EF := fun env => M.bind (fo env) fun o => M.bind (fk env) fun k => M.bind (M.see o) fun o => gDGet o k
def cDGetD (fo fk fz : EF) : EF := fun env => M.bind (fo env) fun o => M.bind (M.see o) fun o' => if isDic o' = true then M.bind (fk env) fun k => M.bind (fz env) fun z => M.bind (M.see o) fun o => gDGetD o k z else M.no
def cDIn (g : D → D → M D) (fk fo : EF) : EF := fun env => M.bind (fk env) fun k => M.bind (fo env) fun o => M.bind (M.see o) fun o => g o k
def sDPutF (fo fk fv : EF) : SF := sLift fv fun v => sLift fo fun o => sLift fk fun k => sLift (fun _ => gDPut v o k) fun _ env _ w => .go .nx env w
section
variable {X : Cx} {W : WX} {fo fk fz fv : EF} {o i e f value : Expr} {p pos pos' apos : Pos}
theorem keySome {k : D} (h : (keyOf k).isSome = true) : ∃ κ, keyOf k = some κ := Option.isSome_iff_exists.mp h
theorem pf_dget (hu : X.A.units + 1 < cLine) (ho : PE X o (tE (cfg X) W fo)) (hi : PE X i (tE (cfg X) W fk)) (hs : NoSl i) : PE X (.Subscript o i pos) (tE (cfg X) W (cDGet fo fk)) :=
  pe_imp (pe_dget hu ho hi hs) fun σ H Q ⟨ρ, env, ro, w, hS, hE, q⟩ => by
    refine tR_seq hS hE q fun d w1 v ρ1 H1 x1 s1 r1 q1 => ?_
    refine tR_seq s1 (hE.ext x1) q1 fun k w2 y ρ2 H2 x2 s2 r2 q2 => ?_
    have r1' := seen_of s2 (Rep.ext x2 d r1)
    have q3 : AfterR (cfg X) (Rep (cfg X)) W σ ρ2 H2 ro (gDGet (see ro w2 d) k ro w2) Q := q2
    generalize see ro w2 d = d' at r1' q3
    cases d' with
    | dic ks xs =>
      obtain ⟨a, kvs, rfl, hd, h1, h2⟩ := r1'.dic
      unfold gDGet at q3
      cases e1 : dget ks xs k with
      | none => simp only [e1] at q3; exact (show False from q3).elim
      | some z =>
        simp only [e1] at q3
        by_cases c : (keyOf k).isSome = true
        · rw [if_pos c] at q3
          obtain ⟨κ, hk⟩ := keySome c
          obtain ⟨v, g1, g2⟩ := (dget_rep hk h1 h2).1 z e1
          exact ⟨a, v, rfl, .inl ⟨kvs, κ, hd, key_rep hk r2, g1.symm⟩, ok_same s2 g2 q3⟩
        · rw [if_neg c] at q3
          exact (show False from q3).elim
    | _ => exact (show False from q3).elim
theorem pf_dgetD (hu : X.A.units + 1 < cLine) (ho : PE X o (tE (cfg X) W fo)) (he : PE X e (tE (cfg X) W fk)) (hf : PE X f (tE (cfg X) W fz)) (m : M2 X o "get" apos e f pos := by exact ⟨rfl, rfl, rfl, rfl⟩) : PE X (.Call (.Attribute o "get" apos) [e, f] [] pos) (tE (cfg X) W (cDGetD fo fk fz)) :=
  pe_imp (pe_dget2 hu ho he hf m) fun σ H Q ⟨ρ, env, ro, w, hS, hE, q⟩ => by
    refine tR_seq hS hE q fun d w1 v ρ1 H1 x1 s1 r1 q1 => ?_
    have r1' := seen_of s1 r1
    have q1' : AfterR (cfg X) (Rep (cfg X)) W σ ρ1 H1 ro ((if isDic (see ro w1 d) = true then M.bind (fk env) fun k => M.bind (fz env) fun z => M.bind (M.see d) fun o => gDGetD o k z else M.no : M D) ro w1) Q := q1
    by_cases c : isDic (see ro w1 d) = true
    · rw [if_pos c] at q1'
      have isd : ∃ a, v = .ref a ∧ IsD H1 a := by
        generalize see ro w1 d = d' at r1' c
        cases d' with
        | dic ks xs =>
          obtain ⟨a, kvs, rfl, hd, h1, h2⟩ := r1'.dic
          exact ⟨a, rfl, .inl ⟨kvs, hd⟩⟩
        | _ => cases c
      obtain ⟨a, rfl, hd⟩ := isd
      refine ⟨a, rfl, hd, ?_⟩
      refine tR_seq s1 (hE.ext x1) q1' fun k w2 y ρ2 H2 x2 s2 r2 q2 => ?_
      refine tR_seq s2 ((hE.ext x1).ext x2) q2 fun z w3 vz ρ3 H3 x3 s3 r3 q3 => ?_
      have r1'' := seen_of s3 (Rep.ext x3 d (Rep.ext x2 d r1))
      have q3' : AfterR (cfg X) (Rep (cfg X)) W σ ρ3 H3 ro (gDGetD (see ro w3 d) k z ro w3) Q := q3
      generalize see ro w3 d = d' at r1'' q3'
      cases d' with
      | dic ks xs =>
        obtain ⟨a', kvs, e0, hd, h1, h2⟩ := r1''.dic
        cases e0
        unfold gDGetD at q3'
        by_cases c : (keyOf k).isSome = true
        · simp only [if_pos c] at q3'
          obtain ⟨κ, hk⟩ := keySome c
          have ey := key_rep hk (Rep.ext x3 k r2)
          cases e1 : dget ks xs k with
          | none =>
            rw [e1] at q3'
            exact ⟨none, .inl ⟨kvs, κ, hd, ey, ((dget_rep hk h1 h2).2 e1).symm⟩, ok_same s3 r3 q3'⟩
          | some u =>
            rw [e1] at q3'
            obtain ⟨v, g1, g2⟩ := (dget_rep hk h1 h2).1 u e1
            exact ⟨some v, .inl ⟨kvs, κ, hd, ey, g1.symm⟩, ok_same s3 g2 q3'⟩
        · simp only [if_neg c] at q3'
          exact (show False from q3').elim
      | _ => exact (show False from q3').elim
    · rw [if_neg c] at q1'
      exact (show False from q1').elim
def gTIn (b : Bool) (o k : D) : M Bool := match o with
  | .dic ks _ => if (keyOf k).isSome = true then M.pure (if b = true then !dhas ks k else dhas ks k) else M.no
  | _ => M.no
def cTIn (b : Bool) (fk fo : EF) : Fx.Env → M Bool := fun env => M.bind (fk env) fun k => M.bind (fo env) fun o => M.bind (M.see o) fun o => gTIn b o k
end
theorem hu1 {k : Nat} {A : Around} (r : Room k A) : A.units + 1 < cLine := by
  have := hu65 r
  omega
section
variable {fo fk fz fv : EF} {env : Fx.Env} {ro w : List D}
@[simp] theorem x_dnew : cDNew env ro w = .ok (.ref (ro.length + w.length)) (w ++ [.dic [] []]) := by
  show mNew _ ro w = _
  simp
@[simp] theorem x_dget : cDGet fo fk env ro w = (fo env ro w).an fun o w1 => (fk env ro w1).an fun k w2 => gDGet (see ro w2 o) k ro w2 := by
  show M.bind (fo env) _ ro w = _
  simp
@[simp] theorem x_dgetD : cDGetD fo fk fz env ro w = (fo env ro w).an fun o w1 => if isDic (see ro w1 o) = true then (fk env ro w1).an fun k w2 => (fz env ro w2).an fun z w3 => gDGetD (see ro w3 o) k z ro w3 else .no := by
  show M.bind (fo env) _ ro w = _
  simp only [x_bind, x_see, an_ok]
  congr
  funext o w1
  by_cases c : isDic (see ro w1 o) = true
  · simp only [if_pos c, x_bind, x_see, an_ok]
  · simp only [if_neg c, x_no]
@[simp] theorem x_din {g : D → D → M D} : cDIn g fk fo env ro w = (fk env ro w).an fun k w1 => (fo env ro w1).an fun o w2 => g (see ro w2 o) k ro w2 := by
  show M.bind (fk env) _ ro w = _
  simp
@[simp] theorem x_tin {b : Bool} : cTIn b fk fo env ro w = (fk env ro w).an fun k w1 => (fo env ro w1).an fun o w2 => gTIn b (see ro w2 o) k ro w2 := by
  show M.bind (fk env) _ ro w = _
  simp
@[simp] theorem isDic_dic {ks xs : List D} : isDic (.dic ks xs) = true := rfl
@[simp] theorem keyOf_str {x : Str} : keyOf (.str x) = some (.inr x) := rfl
@[simp] theorem keyOf_int {x : Int} : keyOf (.int x) = some (.inl x) := rfl
@[simp] theorem dgetD_eq {ks xs : List D} {k z : D} (h : (keyOf k).isSome = true) : gDGetD (.dic ks xs) k z ro w = .ok ((dget ks xs k).getD z) w := by
  unfold gDGetD
  simp [h]
@[simp] theorem dget_nil {k : D} : dget [] [] k = none := rfl
@[simp] theorem din_eq {ks xs : List D} {k : D} (h : (keyOf k).isSome = true) : gDIn (.dic ks xs) k ro w = .ok (.bl (dhas ks k)) w := by
  unfold gDIn
  simp [h]
@[simp] theorem dnotIn_eq {ks xs : List D} {k : D} (h : (keyOf k).isSome = true) : gDNotIn (.dic ks xs) k ro w = .ok (.bl (!dhas ks k)) w := by
  unfold gDNotIn
  simp [h]
@[simp] theorem x_dput : sDPutF fo fk fv env ro w = (fv env ro w).st env fun v w1 => (fo env ro w1).st env fun o w2 => (fk env ro w2).st env fun k w3 => (gDPut v o k ro w3).st env fun _ w4 => .go .nx env w4 := by
  refine x_lift.trans (congrArg _ ?_)
  funext v w1
  refine x_lift.trans (congrArg _ ?_)
  funext o w2
  refine x_lift.trans (congrArg _ ?_)
  funext i w3
  exact x_lift
end
end Fx
/-! A list times a number. -/
namespace Fx
open PySem PySem.Spec L2
section
variable {X : Cx}
end
/-- number times number, list times number -/
def gMulF (x y : D) : M D := match x, y with
  | .lst ds, .int k => fun _ w => if k.natAbs < 2 ^ 62 ∧ ds.length * k.toNat ≤ sizeLine then .ok (.lst (List.replicate k.toNat ds).flatten) w else .no
  | x, y => gMul x y
theorem Reps.rep {C : Cfg} {ρ : Zn} {H : Hp} {ds : List D} {vs : List V} (r : Reps C ρ H ds vs) : ∀ n : Nat, Reps C ρ H (List.replicate n ds).flatten (List.replicate n vs).flatten
  | 0 => rfl
  | n + 1 => by
    rw [List.replicate_succ, List.replicate_succ, List.flatten_cons, List.flatten_cons]
    exact Reps.append r (Reps.rep r n)
section
variable {ro w : List D}
@[simp] theorem mulF_int {i j : Int} : gMulF (.int i) (.int j) ro w = gMul (.int i) (.int j) ro w := rfl
@[simp] theorem mulF_lst {ds : List D} {k : Int} : gMulF (.lst ds) (.int k) ro w = if k.natAbs < 2 ^ 62 ∧ ds.length * k.toNat ≤ sizeLine then .ok (.lst (List.replicate k.toNat ds).flatten) w else .no := rfl
end
theorem flats_iff {ds : List D} : D.flats ds = true ↔ ∀ d ∈ ds, d.flat = true := by
  induction ds with
  | nil => simp [D.flats]
  | cons d ds ih => simp [D.flats, ih]
end Fx
/-! Exceptions. -/
namespace Fx
open PySem PySem.Spec L2
/-- an own class over ValueError, without `__init__` -/
structure ExC (K : PySem.W.Frag) (mg : Str → Option Value) (x : Str) : Prop where
  ex : ∃ C, mg x = some (.ref C) ∧ PySem.W.excIn K C [.type "ValueError", .type "Exception", .type "BaseException", .type "object"] "ValueError.__new__" = true ∧ PySem.W.keepIn K (.ref C) = true ∧
    PySem.W.subIn K (.ref C) (.type "BaseException") = some true ∧ PySem.W.typeIn K (.ref C) = some (.type "type")
def sRaise (x : Str) : SF := fun env _ w => .exn x [] [] env w
section
variable {X : Cx} {W : WX} {x m : Str} {j : Nat} {p p2 cpos pos : Pos}
theorem f_raise (E : ExC X.K X.mg x) (hc : X.calm = true) (tk : Takes X W) (hg : Gl X x) (hdb : (x == ("__debug__" : Str)) = false := by decide) :
    PS X (.Raise (some (.Call (.Name x p) [.Constant (.str m) j p2] [] cpos)) none pos) (tS (cfg X) W (sRaise x)) := by
  obtain ⟨C, gC, xC, kC, bC, tC⟩ := E.ex
  refine ps_imp (ps_raise hc tk (pmk_own PySem.F.excBase_ValueError xC gC kC (raises_own bC tC) hg hdb)) fun D σ H ⟨ρ, env, ro, w, hS, hE, q⟩ => ?_
  exact q (.ref C) none σ ρ H .refl hS hE ⟨C, gC, rfl, .inl ⟨rfl, rfl, rfl⟩⟩
@[simp] theorem x_raise {env : Fx.Env} {ro w : List D} : sRaise x env ro w = .exn x [] [] env w := rfl
end
end Fx
set_option maxHeartbeats 2000000
/-! try, except .. as n, else. -/
namespace Fx
open PySem PySem.Spec L2 PyProof.Rows
section
variable {X : Cx} {x n : Str} {c : Value} {i : Nat} {body suite orelse : List Stmt} {b₀ : Stmt} {np pos pos' : Pos} {tb : WX → TS} {ts : Addr → Value → Option Addr → TS} {u : TS} {Wout : WX}
end
end Fx
/-! Expressions of an except suite: what is known of the name's slot goes along. -/
namespace Fx
open PySem PySem.Spec L2
section
variable {X : Cx} {P : L2.St → Prop} {W : WX} {C : Cfg} {a b e : Expr} {rest : List Expr} {pos : Pos} {ta tb : Fx.Env → M Bool} {fa fb : EF}
end
def cKT (b : Bool) : Fx.Env → M Bool := fun _ => M.pure b
@[simp] theorem x_kt {b : Bool} {env : Fx.Env} {ro w : List D} : cKT b env ro w = .ok b w := rfl
/-! ### try, except X as n, else -/
section
variable {X : Cx} {W : WX} {x n : Str} {c : Value} {i : Nat} {body suite orelse : List Stmt} {b₀ : Stmt} {np pos pos' : Pos} {fb fe : SF} {fs : Str → SF} {sub : Str → Option Bool}
end
/-! ### isinstance(e, C) in the suite -/
section
variable {X : Cx} {i : Nat} {c' cn en : Str} {a : Addr} {oe : Obj} {cls : Value} {d : Option Addr} {pn : List (Addr × Obj)} {W : WX} {C : Cfg} {p q1 q2 pos : Pos} {b : Bool} {C2 : Addr}
end
/-! ### a law's exceptions: cs may be raised, us are named in clauses and tests -/
structure ExT (K : PySem.W.Frag) (mg : Str → Option Value) (cs us : List Str) (sub : Str → Str → Bool) : Prop where
  ad : ∀ c ∈ cs, ExC K mg c ∧ ∀ A, mg c = some (.ref A) → ExcC K A
  na : ∀ c ∈ us, ∃ A, mg c = some (.ref A)
  pr : ∀ c ∈ cs, ∀ u ∈ us, ∀ A B, mg c = some (.ref A) → mg u = some (.ref B) → PySem.W.exmOne K (.ref A) (.ref B) = some (sub c u) ∧ PySem.W.kitOne K (.ref A) (.ref B) = some (sub c u)
def subO (cs : List Str) (sub : Str → Str → Bool) (u : Str) : Str → Option Bool := fun c => if c ∈ cs then some (sub c u) else none
section
variable {K : PySem.W.Frag} {mg : Str → Option Value} {cs us : List Str} {sub : Str → Str → Bool} {u : Str}
theorem ExT.sub' (T : ExT K mg cs us sub) (hu : u ∈ us) {B : Addr} (hB : mg u = some (.ref B)) : ∀ c' b, subO cs sub u c' = some b → ∀ A, mg c' = some (.ref A) → PySem.W.exmOne K (.ref A) (.ref B) = some b := by
  intro c' b h A hA
  unfold subO at h
  by_cases hc : c' ∈ cs
  · rw [if_pos hc] at h
    cases h
    exact (T.pr c' hc u hu A B hA hB).1
  · rw [if_neg hc] at h
    cases h
end
section
variable {X : Cx} {W : WX} {x n : Str} {i : Nat} {body suite orelse : List Stmt} {b₀ : Stmt} {np pos pos' : Pos} {fb fe : SF} {fs : Str → SF} {cs us : List Str} {sub : Str → Str → Bool}
end
theorem exm_both {K : PySem.W.Frag} {A C : Addr} {b b' : Bool} (h1 : PySem.W.subIn K (.ref C) (.type "BaseException") = some true) (hd : PySem.W.hasDictIn K C = true) (ht : PySem.W.typeIn K (.ref C) = some (.type "type")) (h4 : PySem.W.subIn K (.ref A) (.ref C) = some b) (he : (Value.ref A == Value.ref C) = b') (hb : b' = true → b = true) : PySem.W.exmOne K (.ref A) (.ref C) = some b ∧ PySem.W.kitOne K (.ref A) (.ref C) = some b := by
  have e := PySem.W.exm_ref h1 hd ht h4
  refine ⟨e, ?_⟩
  unfold PySem.W.kitOne
  rw [he]
  cases b' with
  | true => rw [if_pos rfl, hb rfl]
  | false =>
    rw [if_neg (by decide)]
    unfold PySem.W.exmOne at e
    rw [h1] at e
    exact e
end Fx
/-! dict == dict; for k in d. -/
namespace Fx
open PySem PySem.Spec L2
/-- the values of two dicts compared, key by key -/
inductive HitsV (K : PySem.W.Frag) (H : Hp) (lvs : List (Key × V)) : List (Key × V) → Bool → Prop
  | nil : HitsV K H lvs [] true
  | miss {k : Key} {v : V} {r : List (Key × V)} : valV lvs k = none → HitsV K H lvs ((k, v) :: r) false
  | hit {k : Key} {v y : V} {d e : PyData} {r : List (Key × V)} {b : Bool} : valV lvs k = some y → Dp K H v d → Dp K H y e → SeqAt.shaped d = true → SeqAt.shaped e = true → HitsV K H lvs r b → HitsV K H lvs ((k, v) :: r) (PyData.eqv d e && b)
section
variable {X : Cx} {pins : List (Addr × Obj)} {σ : L2.St} {H : Hp} {s : Shared}
end
section
variable {C : Cfg} {ρ : Zn} {H : Hp}
theorem map_len {α β : Type} {ks : List D} {f : D → α} {kvs : List β} {g : β → α} (h : ks.map f = kvs.map g) : ks.length = kvs.length := by
  have := congrArg List.length h
  simpa using this
end
section
variable {ro w : List D}
end

/-! ### a heap in which a dict is locked -/
structure Rde (H H' : Hp) : Prop where
  rd : ∀ a u, (∀ o u', u ≠ .frz o u') → Rd H a u → Rd H' a u
  ins : ∀ a A dx fs, H a = some (.ins A dx fs) → H' a = some (.ins A dx fs)
  there : ∀ a o, H a = some o → ∃ o', H' a = some o'
section
variable {C : Cfg} {ρ : Zn} {H H' : Hp}
theorem Rde.still {a : Addr} {u : HO} (x : Rde H H') (hu : ∀ o u', u ≠ .frz o u') (h : Still ρ H a u) : Still ρ H' a u := ⟨h.1, x.rd a u hu h.2⟩
end

/-! ### the keys -/
section
variable {X : Cx} {W : WX} {pos p pos' : Pos} {elt tg iter : Expr} {ifs : List Expr} {scope : Scope} {own : List (Str × Nat)} {tt : Env → M Bool} {f : EF} {t : Tg} {x : Str} {σ : L2.St} {H : Hp} {ρ : Zn}
/-- for k in d -/
def OS.calm : OS → OS
  | .go fl env w => .go fl env w
  | _ => .no
end
section
variable {t : Tg} {own : List Nat} {i : Nat} {tt : Env → M Bool} {f : EF} {k : List D → M D} {env : Env} {ro w : List D} {ks xs : List D} {body : SF}
end
end Fx
/-! Dicts whose keys are tuples, nested too. -/
namespace Fx
open PySem PySem.Spec L2 PyProof.Rows
section
variable {X : Cx} {pins : List (Addr × Obj)} {σ : L2.St} {H : Hp} {s : Shared} {ρ : Zn}
mutual
theorem Rep.nest (I : Inv X pins σ H s) : ∀ (d : D) {v : V} {u : Value} {κ : NestedKey}, toKey d = some κ → Rep (cfg X) ρ H d v → RelV v u → NestedIs s.heap κ u
  | .int i, v, u, κ, e, h, r => by
    cases e
    cases (show v = .int i from h)
    obtain ⟨t, rfl⟩ := (show ∃ t, u = Value.int i t from r)
    exact .int i t
  | .str x, v, u, κ, e, h, r => by
    cases e
    cases (show v = .str x from h)
    obtain ⟨t, rfl⟩ := (show ∃ t, u = Value.str x t from r)
    exact .text x t
  | .tup ds, v, u, κ, e, ⟨a, vs, ev, h, r⟩, rv => by
    unfold toKey at e
    cases q : toKeys ds with
    | none => rw [q] at e; cases e
    | some ks =>
      rw [q] at e
      cases e
      subst ev
      cases (show u = Value.ref a from rv)
      obtain ⟨its, rl, ⟨o, h1, h2, n, h3⟩, _⟩ := I.tuple (Still.sqT h)
      exact .tup h1 h2 h3 (by simpa using Reps.nest I ds q r rl)
  | .non, v, u, κ, e, _, _ => by cases e
  | .bl _, v, u, κ, e, _, _ => by cases e
  | .fn _, v, u, κ, e, _, _ => by cases e
  | .rng _, v, u, κ, e, _, _ => by cases e
  | .ref _, v, u, κ, e, _, _ => by cases e
  | .lst _, v, u, κ, e, _, _ => by cases e
  | .dic _ _, v, u, κ, e, _, _ => by cases e
  | .dct _ _, v, u, κ, e, _, _ => by cases e
  | .ins _ _ _, v, u, κ, e, _, _ => by cases e
theorem Reps.nest (I : Inv X pins σ H s) : ∀ (ds : List D) {vs : List V} {us : List Value} {ks : List NestedKey}, toKeys ds = some ks → Reps (cfg X) ρ H ds vs → Vals vs us → NestedAll s.heap ks us
  | [], vs, us, ks, e, h, r => by
    cases e
    cases (show vs = [] from h)
    cases r
    exact .nil
  | d :: ds, vs, us, ks, e, ⟨v, r, ev, h1, h2⟩, rv => by
    subst ev
    unfold toKeys at e
    cases q1 : toKey d with
    | none => simp only [q1] at e; cases e
    | some d1 =>
      cases q2 : toKeys ds with
      | none => simp only [q1, q2] at e; cases e
      | some ds2 =>
        simp only [q1, q2] at e
        cases e
        cases rv with
        | cons r1 r2 => exact .cons (Rep.nest I d q1 h1 r1) (Reps.nest I ds q2 h2 r2)
end
end
/-- keys and values of a dict, and its raw triples -/
inductive XR : List D → List V → List (NestedKey × Addr × Value) → Prop
  | nil : XR [] [] []
  | cons {k : D} {v : V} {κ : List NestedKey} {a : Addr} {u : Value} {ks : List D} {vs : List V} {xs : List (NestedKey × Addr × Value)} : toKey k = some (.tup κ) → (NestedKey.tup κ).depth ≤ 8 → RelV v u → XR ks vs xs → XR (k :: ks) (v :: vs) ((.tup κ, a, u) :: xs)
section
variable {P : Program} {w : World} {es : List DictEntry} {ks : List D} {as : List Addr} {vs : List V} {xs : List (NestedKey × Addr × Value)}
theorem XR.keys (h : XR ks vs xs) : ks.map toKey = (xs.map (·.1)).map some := by
  induction h with
  | nil => rfl
  | cons h1 _ _ _ ih => simp only [List.map_cons, h1, ih]
theorem XR.len (h : XR ks vs xs) : ks.length = xs.length := by
  have := congrArg List.length h.keys
  simpa using this
end
section
variable {X : Cx} {pins : List (Addr × Obj)} {σ : L2.St} {H : Hp} {s : Shared} {ρ : Zn} {es : List DictEntry} {ep : Nat} {ks : List D} {as : List Addr} {vs : List V} {xs : List (NestedKey × Addr × Value)} {a : Addr}
end
/-! ### what is held -/
def isKey (k : D) : Bool := match toKey k with
  | some (.tup κ) => decide ((NestedKey.tup κ).depth ≤ 8)
  | _ => false
theorem isKey_some {k : D} (h : isKey k = true) : ∃ κ, toKey k = some (.tup κ) ∧ (NestedKey.tup κ).depth ≤ 8 := by
  unfold isKey at h
  split at h
  · exact ⟨_, by assumption, by simpa using h⟩
  · cases h
def dhasN (ks : List D) (k : D) : Bool := ks.any fun q => decide (toKey q = toKey k)
def dputXN : List D → List D → D → D → List D
  | q :: ks, x :: xs, k, v => (if toKey q = toKey k then v else x) :: dputXN ks xs k v
  | _, _, _, _ => []
def dputN (ks xs : List D) (k v : D) : D := if dhasN ks k = true then .dct ks (dputXN ks xs k v) else .dct (ks ++ [k]) (xs ++ [v])
section
variable {C : Cfg} {ρ : Zn} {H : Hp} {ks ds : List D} {vs : List V} {xs : List (NestedKey × Addr × Value)} {k dv : D} {κ : NestedKey} {v : V} {u : Value} {b : Addr}
end
/-! ### rules -/
section
variable {X : Cx} {pos pos' apos cpos p : Pos} {o i e f value : Expr} {td ty tx tv : TE}
end
end Fx
/-! Sorting of nested tuples: two of them may differ in shape behind the first place at which they differ. -/
namespace Fx.So
open PySem PySem.W PySem.SeqAt PySem.Calls PyProof.Rows
mutual
/-- x < y can be asked -/
def akin : PyData → PyData → Bool
  | .int _, .int _ => true
  | .str _, .str _ => true
  | .tuple xs, .tuple ys => akinAll xs ys
  | _, _ => false
def akinAll : List PyData → List PyData → Bool
  | x :: xs, y :: ys => akin x y && (!PyData.eqv x y || akinAll xs ys)
  | [], _ => true
  | _ :: _, [] => true
end
theorem akin_cons {x y : PyData} {xs ys : List PyData} (h : akinAll (x :: xs) (y :: ys) = true) : akin x y = true ∧ (PyData.eqv x y = true → akinAll xs ys = true) := by
  rw [akinAll, Bool.and_eq_true, Bool.or_eq_true] at h
  refine ⟨h.1, fun e => ?_⟩
  rcases h.2 with z | z
  · rw [e] at z
    cases z
  · exact z
abbrev lx := PyProof.Rows.lexLt itemOrd
mutual
theorem toks_akin : ∀ (x y : PyData), akin x y = true → (PyData.eqv x y = true → keyToks x = keyToks y) ∧ (PyData.eqv x y = false → ∀ l m, lx (keyToks x ++ l) (keyToks y ++ m) = lx (keyToks x) (keyToks y))
  | .int a, y, h => by
    cases y with
    | int b => exact toks_eqv (.int a) (.int b) rfl
    | _ => simp [akin] at h
  | .str a, y, h => by
    cases y with
    | str b => exact toks_eqv (.str a) (.str b) rfl
    | _ => simp [akin] at h
  | .tuple xs, y, h => by
    cases y with
    | tuple ys =>
      have t := toks_akinAll xs ys (by simpa [akin] using h)
      simp only [keyToks, PyData.eqv]
      exact t
    | _ => simp [akin] at h
  | .none, y, h => by cases y <;> simp [akin] at h
  | .bool _, y, h => by cases y <;> simp [akin] at h
  | .list _, y, h => by cases y <;> simp [akin] at h
  | .dict _, y, h => by cases y <;> simp [akin] at h
theorem toks_akinAll : ∀ (xs ys : List PyData), akinAll xs ys = true → (PyData.eqvAll xs ys = true → keyToksAll xs = keyToksAll ys) ∧ (PyData.eqvAll xs ys = false → ∀ l m, lx (keyToksAll xs ++ l) (keyToksAll ys ++ m) = lx (keyToksAll xs) (keyToksAll ys))
  | [], [], _ => ⟨fun _ => rfl, fun e => (by simp [PyData.eqvAll] at e)⟩
  | [], y :: ys, _ => toksAll_eqv [] (y :: ys) rfl
  | x :: xs, [], _ => toksAll_eqv (x :: xs) [] rfl
  | x :: xs, y :: ys, h => by
    obtain ⟨h1, h2⟩ := akin_cons h
    have a := toks_akin x y h1
    have self : ∀ (p q : List (Int ⊕ List Nat)), lx (.inl 1 :: p) (.inl 1 :: q) = lx p q := fun p q => lex_self (O := itemOrd) _ p q
    cases hx : PyData.eqv x y with
    | true =>
      have b := toks_akinAll xs ys (h2 hx)
      refine ⟨fun e => ?_, fun e l m => ?_⟩
      · rw [eqv_all_cons, hx, Bool.true_and] at e
        rw [toks_all_cons, toks_all_cons, a.1 hx, b.1 e]
      · rw [eqv_all_cons, hx, Bool.true_and] at e
        rw [toks_all_cons, toks_all_cons, a.1 hx, List.cons_append, List.cons_append, self, self, List.append_assoc, List.append_assoc]
        exact (lex_pre _ _ _).trans ((b.2 e l m).trans (lex_pre _ _ _).symm)
    | false =>
      refine ⟨fun e => (by rw [eqv_all_cons, hx] at e; cases e), fun _ l m => ?_⟩
      rw [toks_all_cons, toks_all_cons, List.cons_append, List.cons_append, self, self, List.append_assoc, List.append_assoc]
      exact (a.2 hx _ _).trans (a.2 hx _ _).symm
end
/-! a < b of tuples: < is asked at the first place that differs alone -/
section
open AutoSeq1 (wpAny_loadPart')
open MeetsSeq MeetsSeq2 MeetsSeq3 SeqRoads2

end
section
variable {prog : Program} {w : World} {A : Around} {E : Value → Shared → Prop} {s : Shared}
end
/-! what is read is one thing -/
mutual
def plainD : PyData → Bool
  | .int _ => true
  | .str _ => true
  | .tuple xs => plainDs xs
  | _ => false
def plainDs : List PyData → Bool
  | [] => true
  | x :: xs => plainD x && plainDs xs
end
/-- what can be sorted: all texts; all numbers; all tuples that begin with a text, or with a number -/
def firstT : PyData → Nat
  | .int _ => 0
  | .str _ => 1
  | .tuple (.int _ :: _) => 2
  | .tuple (.str _ :: _) => 3
  | _ => 4
structure CanSort (ds : List PyData) : Prop where
  pl : ∀ d ∈ ds, plainD d = true
  ak : ∀ d ∈ ds, ∀ d' ∈ ds, akin d d' = true
  ft : ∃ n, n < 4 ∧ ∀ d ∈ ds, firstT d = n
end Fx.So
/-! Dicts with nested tuples as keys, sorted(..): what they do to trees. -/
namespace Fx
open PySem PySem.Spec L2 PyProof.Rows PySem.W
section
variable {C : Cfg} {ρ : Zn} {H : Hp}
theorem Seen.dct {ks ds : List D} {v : V} (h : Seen C ρ H (.dct ks ds) v) : ∃ a es ep as vs, v = .ref a ∧ Rd H a (DNo a es ep) ∧ DEnts C.w es ks as vs ∧ (ks.map toKey).Nodup ∧ Reps C ρ H ks (as.map .ref) ∧ Reps C ρ H ds vs := by
  rcases h with ⟨a, es, ep, as, vs, e, h, en, nd, rk, r⟩ | ⟨a, e, es, ep, as, vs, h, en, nd, rk, r⟩
  · exact ⟨a, es, ep, as, vs, e, h.2, en, nd, rk, r⟩
  · exact ⟨a, es, ep, as, vs, e, .inl h, en, nd, rk, r⟩
theorem Seen.key {k : D} {v : V} (h : Seen C ρ H k v) (hk : isKey k = true) : Rep C ρ H k v := by
  rcases h with h | ⟨a, e, h⟩
  · exact h
  · obtain ⟨κ, e1, _⟩ := isKey_some hk
    cases k with
    | tup ds => exact (show False from h).elim
    | _ => cases e1
end
section
variable {X : Cx} {ρ : Zn} {H : Hp}
end
/-- d[k] = v -/
def gPutN (v o k : D) : M D := match o with
  | .ref n => fun ro w => if n < ro.length then .no else match w[n - ro.length]? with
    | some (.dct ks xs) => if isKey k = true ∧ ks.length < sizeLine then .ok .non (w.set (n - ro.length) (dputN ks xs k v)) else .no
    | _ => .no
  | _ => M.no
def cNewN : EF := fun _ => mNew (.dct [] [])
def sPutN (fo fk fv : EF) : SF := sLift fv fun v => sLift fo fun o => sLift fk fun k => sLift (fun _ => gPutN v o k) fun _ env _ w => .go .nx env w
section
variable {C : Cfg} {W : WX} {σ : L2.St} {ρ : Zn} {H : Hp} {ro w : List D} {Q : VK}
end
section
variable {X : Cx} {W : WX} {fo fk fv f : EF} {o i e value : Expr} {p pos pos' apos : Pos}
end
/-! ### sorted -/
abbrev kle : PyData → PyData → Bool := sortLe (listOrd itemOrd) false keyToks
def canSort (ps : List PyData) : Bool := ps.all So.plainD && ps.all (fun d => ps.all fun d' => So.akin d d') && ps.all (fun d => d.canLay0 && decide (d.depth ≤ 64)) && (match ps with
  | [] => true
  | p :: _ => decide (So.firstT p < 4) && ps.all fun d => decide (So.firstT d = So.firstT p))
structure SortZ (K : PySem.W.Frag) (H : Hp) (zs : List (V × PyData)) : Prop where
  dp : ∀ z ∈ zs, Dp K H z.1 z.2
  can : canSort (zs.map (·.2)) = true
  len : zs.length ≤ sizeLine
section
variable {X : Cx}
end
section
variable {C : Cfg} {ρ : Zn} {H : Hp}
theorem pys_map : ∀ ds : List D, D.pys ds = ds.map D.py
  | [] => rfl
  | d :: ds => by simp only [D.pys, List.map_cons, pys_map ds]
end
section
variable {X : Cx}
end
section
variable {fo fk fv : EF} {env : Env} {ro w : List D}
@[simp] theorem x_newN : cNewN env ro w = .ok (.ref (ro.length + w.length)) (w ++ [.dct [] []]) := by
  show mNew _ ro w = _
  simp
@[simp] theorem x_putN : sPutN fo fk fv env ro w = (fv env ro w).st env fun v w1 => (fo env ro w1).st env fun o w2 => (fk env ro w2).st env fun k w3 => (gPutN v o k ro w3).st env fun _ w4 => .go .nx env w4 := by
  refine x_lift.trans (congrArg _ ?_)
  funext v w1
  refine x_lift.trans (congrArg _ ?_)
  funext o w2
  refine x_lift.trans (congrArg _ ?_)
  funext i w3
  exact x_lift
end
end Fx
/-! zip, min, abs, join, dicts written out. -/
namespace Fx
open PySem PySem.Spec L2 PyProof.Rows
/-! ### zip of two lists -/
def zipD (ds es : List D) : List D := (ds.zip es).map fun q => .tup [q.1, q.2]
def gZip : List D → M (List D)
  | [.lst ds, .lst es] => M.pure (zipD ds es)
  | _ => M.no
def cZip (fs : Env → M (List D)) : Env → M (List D) := fun env => M.bind (fs env) gZip
section
variable {X : Cx} {W : WX} {pos p tpos apos : Pos} {a b e o : Expr} {es elts : List Expr} {kk : Nat} {fs : Env → M (List D)} {f fo : EF}
/-! ### min, abs -/
def rMin2 : List V → Hp → VK → Prop := fun xs H Q => ∃ i j, xs = [.int i, .int j] ∧ Q (.int (if j < i then j else i)) H
theorem cr_min2 (hc : X.calm = true) : CallR X (.builtin "min") rMin2 := call_min2 hc
def gMin2 : List D → M D
  | [.int i, .int j] => M.pure (.int (if j < i then j else i))
  | _ => M.no
theorem ok_min2 {C : Cfg} : OkL C rMin2 gMin2 := by
  intro W σ ρ H ro w ds xs Q hS hR q
  unfold gMin2 at q
  split at q
  · obtain ⟨vr, rfl, e3⟩ := int_of hR
    obtain ⟨vr', rfl, e4⟩ := int_of e3
    cases (show vr' = [] from e4)
    exact ⟨_, _, rfl, ok_int hS q⟩
  · exact (show False from q).elim
def gAbs : D → M D
  | .int i => M.pure (.int i.natAbs)
  | _ => M.no
/-! ### join -/
def D.str? : D → Option Str
  | .str x => some x
  | _ => none
def strs? : List D → Option (List Str)
  | [] => some []
  | d :: ds => match d.str?, strs? ds with
    | some x, some xs => some (x :: xs)
    | _, _ => none
theorem strs_ok : ∀ {ds : List D} {ys : List Str}, strs? ds = some ys → ds = ys.map .str
  | [], ys, h => by cases h; rfl
  | d :: ds, ys, h => by
    unfold strs? at h
    cases e1 : d.str? with
    | none => simp only [e1] at h; cases h
    | some x =>
      cases e2 : strs? ds with
      | none => simp only [e1, e2] at h; cases h
      | some xs =>
        simp only [e1, e2] at h
        cases h
        rw [List.map_cons, ← strs_ok e2]
        cases d with
        | str y => cases e1; rfl
        | _ => cases e1
theorem strs_map : ∀ ys : List Str, strs? (ys.map .str) = some ys
  | [] => rfl
  | y :: ys => by
    unfold strs?
    rw [List.map_cons]
    simp only [D.str?, strs_map ys]
theorem reps_str {C : Cfg} {ρ : Zn} {H : Hp} : ∀ {ys : List Str} {vs : List V}, Reps C ρ H (ys.map .str) vs → vs = ys.map .str
  | [], vs, h => h
  | y :: ys, vs, ⟨v, r, e, h1, h2⟩ => by rw [e, show v = .str y from h1, reps_str h2]; rfl
def gJoin (x : Str) (d : D) : M D := match d with
  | .lst ds => fun _ w => (match strs? ds with
    | some ys => if (ys.map (·.length)).sum + ys.length * x.length ≤ 16777216 then .ok (.str (Txt.join x ys)) w else .no
    | none => .no)
  | _ => M.no
def cJoin (fo f : EF) : EF := fun env => M.bind (fo env) fun o => match o with
  | .str x => M.bind (f env) fun d => M.bind (M.see d) fun d => gJoin x d
  | _ => M.no
theorem pf_join (ho : PE X o (tE (cfg X) W fo)) (he : PE X e (tE (cfg X) W f)) (hs : starEach [e] X.env = [(false, eval e X.env)] := by rfl) (hbase : attributeBase o "join" X.env (eval o X.env) = eval o X.env := by rfl) (hline : (apos.endLine == pos.line) = true := by rfl) :
    PE X (.Call (.Attribute o "join" apos) [e] [] pos) (tE (cfg X) W (cJoin fo f)) := pe_imp (pe_join ho he hs hbase hline) fun σ H Q ⟨ρ, env, ro, w, hS, hE, q⟩ => by
  refine tR_seq hS hE q fun d w1 v ρ1 H1 x1 s1 r1 q1 => ?_
  cases d with
  | str x =>
    cases (show v = .str x from r1)
    refine ⟨⟨x, rfl⟩, tR_seq s1 (hE.ext x1) q1 fun d w2 u ρ2 H2 x2 s2 r2 q2 => ?_⟩
    have sd := seen_of s2 r2
    have q3 : AfterR (cfg X) (Rep (cfg X)) W σ ρ2 H2 ro (gJoin x (see ro w2 d) ro w2) Q := q2
    generalize see ro w2 d = d' at sd q3
    cases d' with
    | lst ds =>
      unfold gJoin at q3
      cases e1 : strs? ds with
      | none => simp only [e1] at q3; exact (show False from q3).elim
      | some ys =>
        simp only [e1] at q3
        by_cases c : (ys.map (·.length)).sum + ys.length * x.length ≤ 16777216
        · rw [if_pos c] at q3
          obtain ⟨a, vs, rfl, hs, r⟩ := sd.lst
          rw [strs_ok e1] at r
          rw [reps_str r] at hs
          exact ⟨x, a, ys, rfl, rfl, .inl hs, c, ok_str s2 q3⟩
        · rw [if_neg c] at q3
          exact (show False from q3).elim
    | _ => exact (show False from q3).elim
  | _ => exact (show False from q1).elim
end
/-! ### {k: v, ..} -/
def cPairs : List (EF × EF) → Env → M (List (D × D))
  | [], _ => M.pure []
  | (k, v) :: r, env => M.bind (k env) fun x => M.bind (v env) fun y => M.bind (cPairs r env) fun ps => M.pure ((x, y) :: ps)
def putD (d : D) (kv : D × D) : D := match d with
  | .dic ks xs => dput ks xs kv.1 kv.2
  | d => d
def gDisp (ps : List (D × D)) : M D := fun _ w => if (ps.all fun kv => (keyOf kv.1).isSome) = true ∧ ps.length ≤ 15 then .ok (ps.foldl putD (.dic [] [])) w else .no
def cDisp (ps : List (EF × EF)) : EF := fun env => M.bind (cPairs ps env) gDisp
abbrev RPs (C : Cfg) : Zn → Hp → List (D × D) → List (V × V) → Prop := fun ρ H ps vs => Reps C ρ H (ps.map (·.1)) (vs.map (·.1)) ∧ Reps C ρ H (ps.map (·.2)) (vs.map (·.2))
theorem tE_pairs {C : Cfg} {W : WX} : ∀ (ps : List (EF × EF)) {σ : L2.St} {H : Hp} {Q : List (V × V) → Hp → Prop}, tR C (RPs C) W (cPairs ps) σ H Q → tPairs (ps.map fun q => (tE C W q.1, tE C W q.2)) σ H Q
  | [], σ, H, Q, ⟨ρ, env, ro, w, hS, hE, q⟩ => q [] ρ H .refl hS ⟨rfl, rfl⟩
  | (k, v) :: r, σ, H, Q, ⟨ρ, env, ro, w, hS, hE, q⟩ => by
    refine tR_seq hS hE q fun dk w1 vk ρ1 H1 x1 s1 r1 q1 => ?_
    refine tR_seq s1 (hE.ext x1) q1 fun dv w2 vv ρ2 H2 x2 s2 r2 q2 => ?_
    refine tE_pairs r ?_
    refine tR_seq s2 ((hE.ext x1).ext x2) q2 fun ds w3 vs ρ3 H3 x3 s3 r3 q3 => ?_
    exact q3 _ ρ3 H3 .refl s3 ⟨⟨_, _, rfl, Rep.ext x3 dk (Rep.ext x2 dk r1), r3.1⟩, _, _, rfl, Rep.ext x3 dv r2, r3.2⟩
theorem disp_keys {C : Cfg} {ρ : Zn} {H : Hp} : ∀ {ps : List (D × D)} {vs : List (V × V)}, (ps.all fun kv => (keyOf kv.1).isSome) = true → RPs C ρ H ps vs → ∃ kvs : List (Key × V), vs = kvs.map (fun kv => (kV kv.1, kv.2)) ∧ ps.map (fun kv => keyOf kv.1) = kvs.map (fun kv => some kv.1) ∧ Reps C ρ H (ps.map (·.2)) (kvs.map (·.2))
  | [], vs, _, h => by
    have e : vs = [] := by simpa [Reps] using h.1
    subst e
    exact ⟨[], rfl, rfl, rfl⟩
  | p :: ps, vs, hk, ⟨⟨y, r, e1, h1, h2⟩, z, r', e2, g1, g2⟩ => by
    cases vs with
    | nil => simp at e1
    | cons v vs =>
      simp only [List.map_cons, List.cons.injEq] at e1 e2
      obtain ⟨e1, e1'⟩ := e1
      obtain ⟨e2, e2'⟩ := e2
      subst e1 e1' e2 e2'
      rw [List.all_cons, Bool.and_eq_true] at hk
      obtain ⟨kvs, k1, k2, k3⟩ := disp_keys hk.2 ⟨h2, g2⟩
      obtain ⟨κ, e⟩ := keySome hk.1
      refine ⟨(κ, v.2) :: kvs, ?_, by simp only [List.map_cons, e, k2], v.2, _, rfl, g1, k3⟩
      rw [k1, List.map_cons]
      congr 1
      rw [← key_rep e h1]
theorem disp_rep {C : Cfg} {ρ : Zn} {H : Hp} : ∀ {ps : List (D × D)} {kvs : List (Key × V)} {d : D} {acc : List (Key × V)}, ps.map (fun kv => keyOf kv.1) = kvs.map (fun kv => some kv.1) → Reps C ρ H (ps.map (·.2)) (kvs.map (·.2)) → RepD C ρ H d acc → RepD C ρ H (ps.foldl putD d) (mergeK acc kvs)
  | [], kvs, d, acc, h1, _, h => by
    have e : kvs = [] := by simpa using h1.symm
    subst e
    exact h
  | p :: ps, kvs, d, acc, h1, h2, h => by
    cases kvs with
    | nil => simp at h1
    | cons kv kvs =>
      obtain ⟨v, r, e, g1, g2⟩ := h2
      simp only [List.map_cons, List.cons.injEq] at h1 e
      obtain ⟨e1, e2⟩ := e
      subst e1 e2
      obtain ⟨ks, xs, rfl, k1, k2⟩ := h
      show RepD C ρ H (ps.foldl putD (putD (.dic ks xs) p)) (mergeK (putK acc kv.1 kv.2) kvs)
      exact disp_rep (ps := ps) h1.2 g2 (dput_rep h1.1 g1 k1 k2)
section
variable {X : Cx} {W : WX} {pos : Pos} {keys : List (Option Expr)} {values : List Expr} {k v : Expr} {ps : List (EF × EF)} {fk fv : EF}
theorem pps_n : PPs X pos [] [] (([] : List (EF × EF)).map fun q => (tE (cfg X) W q.1, tE (cfg X) W q.2)) := pps_nil
theorem pps_c (hk : PE X k (tE (cfg X) W fk)) (hv : PE X v (tE (cfg X) W fv)) (hr : PPs X pos keys values (ps.map fun q => (tE (cfg X) W q.1, tE (cfg X) W q.2))) : PPs X pos (some k :: keys) (v :: values) (((fk, fv) :: ps).map fun q => (tE (cfg X) W q.1, tE (cfg X) W q.2)) := pps_cons hk hv hr
theorem pf_disp (h : PPs X pos keys values (ps.map fun q => (tE (cfg X) W q.1, tE (cfg X) W q.2))) (hall : keys.all (·.isSome) = true := by rfl) (hl : keys.length = values.length := by rfl) (h0 : keys ≠ [] := by exact fun z => nomatch z) (h15 : keys.length ≤ 15 := by exact Nat.le_of_ble_eq_true rfl) :
    PE X (.Dict keys values pos) (tE (cfg X) W (cDisp ps)) := pe_imp (pe_disp h hall hl h0 h15) fun σ H Q ⟨ρ, env, ro, w, hS, hE, q⟩ => by
  intro p hp
  obtain ⟨xh, sh⟩ := hide_new (o := .dK []) hS hp
  refine tE_pairs ps ?_
  refine ⟨ρ.hide p, env, ro, w, sh, hE.extR xh, ?_⟩
  replace q : AfterR (cfg X) (Rep (cfg X)) W σ ρ H ro (M.bind (cPairs ps env) gDisp ro w) Q := q
  unfold M.bind at q
  have out : ∀ {ρ' : Zn} {H' : Hp}, Ext (ρ.hide p) ρ' (upd H p (.dK [])) H' → H' p = some (.dK []) ∧ ρ'.h = p :: ρ.h ∧ Ext ρ ⟨ρ'.r, ρ.h⟩ H H' := fun {ρ' H'} x => by
    have hh : ρ'.h = p :: ρ.h := x.hid
    refine ⟨by rw [x.same p List.mem_cons_self]; exact upd_same, hh, ?_⟩
    have xo : Ext ρ ⟨(ρ.hide p).r, ρ.h⟩ H (upd H p (.dK [])) := ext_new hS hp
    exact ext_out xo rfl hp x
  cases ep : cPairs ps env ro w with
  | no => rw [ep] at q; exact q
  | exn c ns xs w1 =>
    rw [ep] at q
    intro cls dx ρ' H' x s hX
    obtain ⟨o1, o2, o3⟩ := out x
    obtain ⟨xe, se⟩ := hide_end s o2
    refine q cls dx _ H' o3 se ?_
    obtain ⟨A, g1, g2, g3⟩ := hX
    refine ⟨A, g1, g2, ?_⟩
    rcases g3 with g3 | ⟨d, fs, k1, k2, k3, k4, k5, k6⟩
    · exact .inl g3
    · exact .inr ⟨d, fs, k1, k2, (xe.keep _ _ k4 k3).2, k4, k5, Reps.extR xe _ k6⟩
  | ok kvd w1 =>
    rw [ep] at q
    simp only at q
    unfold gDisp at q
    by_cases c : (kvd.all fun kv => (keyOf kv.1).isSome) = true ∧ kvd.length ≤ 15
    · rw [if_pos c] at q
      intro vs ρ' H' x s r
      obtain ⟨o1, o2, o3⟩ := out x
      obtain ⟨kvs, k1, k2, k3⟩ := disp_keys c.1 r
      refine ⟨o1, kvs, k1, by rw [← map_len (f := keyOf) (ks := kvd.map (·.1)) (g := fun kv : Key × V => some kv.1) (by rw [List.map_map]; exact k2), List.length_map]; exact c.2, ?_⟩
      have pm : p ∈ ρ'.h := by rw [o2]; exact List.mem_cons_self
      obtain ⟨xp, sp⟩ := hide_put (o := .dK (mergeK [] kvs)) s pm
      obtain ⟨xe, se⟩ := hide_end sp o2
      obtain ⟨ks, xs, e, m1, m2⟩ := disp_rep (d := .dic [] []) (acc := []) k2 k3 ⟨[], [], rfl, rfl, rfl⟩
      rw [e] at q
      refine q (.ref p) ⟨ρ'.r, ρ.h⟩ _ (ext_upd o3 hp (hS.fresh hp).2) se ⟨p, _, rfl, ⟨⟨(s.hid p pm).1, (hS.fresh hp).2⟩, .inl upd_same⟩, m1, Reps.extR xe _ (Reps.extR xp _ m2)⟩
    · rw [if_neg c] at q
      exact (show False from q).elim
end
section
variable {env : Env} {ro w : List D} {f fo fk fv : EF} {fs : Env → M (List D)} {i j : Int}
@[simp] theorem x_zip : cZip fs env ro w = (fs env ro w).an fun ds w1 => gZip ds ro w1 := by
  show M.bind (fs env) _ ro w = _
  simp
@[simp] theorem zip_lst {ds es : List D} : gZip [.lst ds, .lst es] ro w = .ok (zipD ds es) w := rfl
@[simp] theorem min_int : gMin2 [.int i, .int j] ro w = .ok (.int (if j < i then j else i)) w := rfl
@[simp] theorem abs_int : gAbs (.int i) ro w = .ok (.int i.natAbs) w := rfl
theorem x_join {x : Str} (h : fo env ro w = .ok (.str x) w) : cJoin fo f env ro w = (f env ro w).an fun d w1 => gJoin x (see ro w1 d) ro w1 := by
  show M.bind (fo env) _ ro w = _
  rw [x_bind, h, an_ok]
  simp
theorem join_lst {x : Str} {ys : List Str} (h : (ys.map (·.length)).sum + ys.length * x.length ≤ 16777216) : gJoin x (.lst (ys.map .str)) ro w = .ok (.str (Txt.join x ys)) w := by
  unfold gJoin
  simp only [strs_map, if_pos h]
@[simp] theorem x_disp1 : cDisp [(fk, fv)] env ro w = (fk env ro w).an fun k w1 => (fv env ro w1).an fun v w2 => if (keyOf k).isSome = true then .ok (.dic [k] [v]) w2 else .no := by
  show M.bind (cPairs [(fk, fv)] env) gDisp ro w = _
  unfold cPairs
  simp only [x_bind]
  cases fk env ro w with
  | ok k w1 =>
    simp only [an_ok]
    cases fv env ro w1 with
    | ok v w2 =>
      simp only [an_ok]
      unfold cPairs gDisp
      simp [putD, dput, dhas]
    | _ => rfl
  | _ => rfl
end
section
variable {X : Cx} {W : WX} {pos : Pos} {a b : Expr} {fa fb : EF}
end
end Fx
/-! A call whose things end with it; a changing list compared with a list. -/
namespace Fx
open PySem PySem.Spec L2
namespace Lw
end Lw
end Fx
/-! Formulas and texts, sorted; formulas as keys. -/
namespace Fx
open PySem PySem.Spec L2 PyProof.Rows PySem.W
/-! ### keys -/
mutual
def ofKey : NestedKey → D
  | .none => .non
  | .num i => .int i
  | .text x => .str x
  | .tup ks => .tup (ofKeys ks)
def ofKeys : List NestedKey → List D
  | [] => []
  | k :: ks => ofKey k :: ofKeys ks
end
theorem Fm.key : ∀ φ : Fm, ∃ κ, toKey φ.toD = some (.tup κ) ∧ (NestedKey.tup κ).depth = φ.ht
  | .fal => ⟨_, rfl, rfl⟩
  | .var x => ⟨_, rfl, rfl⟩
  | .imp a b => by
    obtain ⟨κ, h1, h2⟩ := a.key
    obtain ⟨μ, g1, g2⟩ := b.key
    exact ⟨[.text "implies", .tup κ, .tup μ], by simp only [Fm.toD, toKey, toKeys, h1, g1]; rfl, by simp only [NestedKey.depth, NestedKey.depthAll] at h2 g2 ⊢; simp only [Fm.ht]; omega⟩
  | .and a b => by
    obtain ⟨κ, h1, h2⟩ := a.key
    obtain ⟨μ, g1, g2⟩ := b.key
    exact ⟨[.text "and", .tup κ, .tup μ], by simp only [Fm.toD, toKey, toKeys, h1, g1]; rfl, by simp only [NestedKey.depth, NestedKey.depthAll] at h2 g2 ⊢; simp only [Fm.ht]; omega⟩
  | .or a b => by
    obtain ⟨κ, h1, h2⟩ := a.key
    obtain ⟨μ, g1, g2⟩ := b.key
    exact ⟨[.text "or", .tup κ, .tup μ], by simp only [Fm.toD, toKey, toKeys, h1, g1]; rfl, by simp only [NestedKey.depth, NestedKey.depthAll] at h2 g2 ⊢; simp only [Fm.ht]; omega⟩
  | .box a => by
    obtain ⟨κ, h1, h2⟩ := a.key
    exact ⟨[.text "box", .tup κ], by simp only [Fm.toD, toKey, toKeys, h1]; rfl, by simp only [NestedKey.depth, NestedKey.depthAll] at h2 ⊢; simp only [Fm.ht]; omega⟩
theorem Fm.isKey {φ : Fm} (h : φ.ht ≤ 8) : isKey φ.toD = true := by
  obtain ⟨κ, h1, h2⟩ := φ.key
  unfold Fx.isKey
  rw [h1]
  simp only [h2, h, decide_true]
/-! ### order -/
theorem Fm.plainD : ∀ φ : Fm, So.plainD φ.toD.py = true
  | .fal => rfl
  | .var _ => rfl
  | .imp a b => by simp [Fm.toD, D.py, D.pys, So.plainD, So.plainDs, a.plainD, b.plainD]
  | .and a b => by simp [Fm.toD, D.py, D.pys, So.plainD, So.plainDs, a.plainD, b.plainD]
  | .or a b => by simp [Fm.toD, D.py, D.pys, So.plainD, So.plainDs, a.plainD, b.plainD]
  | .box a => by simp [Fm.toD, D.py, D.pys, So.plainD, So.plainDs, a.plainD]
theorem Fm.firstT : ∀ φ : Fm, So.firstT φ.toD.py = 3
  | .fal => rfl
  | .var _ => rfl
  | .imp a b => rfl
  | .and a b => rfl
  | .or a b => rfl
  | .box a => rfl
theorem eqv_lit {a b : String} : PyData.eqv (.str (Str.ofString a)) (.str (Str.ofString b)) = decide (a = b) := by
  rw [Bool.eq_iff_iff]
  simp [PyData.eqv, ofString_inj]
theorem ak2 {t u : String} {xs ys : List PyData} (h : t = u → So.akinAll xs ys = true) : So.akin (.tuple (.str (Str.ofString t) :: xs)) (.tuple (.str (Str.ofString u) :: ys)) = true := by
  rw [So.akin, So.akinAll, So.akin, eqv_lit]
  by_cases c : t = u
  · rw [h c]
    simp
  · simp [c]
theorem akc {x y : PyData} {xs ys : List PyData} (h : So.akin x y = true) (h' : So.akinAll xs ys = true) : So.akinAll (x :: xs) (y :: ys) = true := by
  rw [So.akinAll, h, h']
  simp
theorem ak0 : So.akinAll [] [] = true := by rw [So.akinAll]
theorem akS {x y : Str} : So.akin (.str x) (.str y) = true := by rw [So.akin]
theorem Fm.akin : ∀ φ ψ : Fm, So.akin φ.toD.py ψ.toD.py = true
  | .fal, ψ => by
    cases ψ with
    | fal => exact ak2 fun _ => ak0
    | _ => exact ak2 fun h => absurd h (by decide)
  | .var _, ψ => by
    cases ψ with
    | var y => exact ak2 fun _ => akc akS ak0
    | _ => exact ak2 fun h => absurd h (by decide)
  | .imp a b, ψ => by
    have ia := a.akin
    have ib := b.akin
    cases ψ with
    | imp c d => exact ak2 fun _ => akc (ia c) (akc (ib d) ak0)
    | _ => exact ak2 fun h => absurd h (by decide)
  | .and a b, ψ => by
    have ia := a.akin
    have ib := b.akin
    cases ψ with
    | and c d => exact ak2 fun _ => akc (ia c) (akc (ib d) ak0)
    | _ => exact ak2 fun h => absurd h (by decide)
  | .or a b, ψ => by
    have ia := a.akin
    have ib := b.akin
    cases ψ with
    | or c d => exact ak2 fun _ => akc (ia c) (akc (ib d) ak0)
    | _ => exact ak2 fun h => absurd h (by decide)
  | .box a, ψ => by
    have ia := a.akin
    cases ψ with
    | box c => exact ak2 fun _ => akc (ia c) ak0
    | _ => exact ak2 fun h => absurd h (by decide)
theorem toks_ne {x y : PyData} (h : So.akin x y = true) (e : PyData.eqv x y = false) : keyToks x ≠ keyToks y := fun q => by
  have z := (So.toks_akin x y h).2 e [.inl 0] [.inl 1]
  rw [q] at z
  have z1 : So.lx (keyToks y ++ [.inl 0]) (keyToks y ++ [.inl 1]) = true := (lex_pre (keyToks y) [.inl 0] [.inl 1]).trans (by rw [lex_one]; rfl)
  have z2 : So.lx (keyToks y) (keyToks y) = false := lex_irrefl _
  rw [z1, z2] at z
  cases z
abbrev kTot : TotalLe kle := sortLe_total (listOrd itemOrd) false keyToks
theorem kle_toks {x y : PyData} (h1 : kle x y = true) (h2 : kle y x = true) : keyToks x = keyToks y := by
  have a : (!So.lx (keyToks y) (keyToks x)) = true := h1
  have b : (!So.lx (keyToks x) (keyToks y)) = true := h2
  exact (listOrd itemOrd).total _ _ (by simpa using b) (by simpa using a)
theorem kle_anti {x y : PyData} (h : So.akin x y = true) (h1 : kle x y = true) (h2 : kle y x = true) : PyData.eqv x y = true := by
  cases e : PyData.eqv x y with
  | true => rfl
  | false => exact absurd (kle_toks h1 h2) (toks_ne h e)
/-- a kind of things that are sorted -/
structure Sk (α : Type) where
  f : α → D
  inj : ∀ a b, f a = f b → a = b
  nb : ∀ a, (f a).nb = true
  akin : ∀ a b, So.akin (f a).py (f b).py = true
  plain : ∀ a, So.plainD (f a).py = true
  ft : Nat
  lt : ft < 4
  first : ∀ a, So.firstT (f a).py = ft
section
variable {α : Type} (S : Sk α)
def Sk.le (a b : α) : Bool := kle (S.f a).py (S.f b).py
def Sk.sort (l : List α) : List α := l.mergeSort S.le
theorem Sk.tot : TotalLe S.le := ⟨fun a b c h1 h2 => kTot.trans _ _ _ h1 h2, fun a b => kTot.total _ _⟩
theorem Sk.anti {a b : α} (h1 : S.le a b = true) (h2 : S.le b a = true) : a = b :=
  S.inj a b ((eqv_nb _ _ (S.nb a) (S.nb b)).mp (kle_anti (S.akin a b) h1 h2))
theorem Sk.sorted (l : List α) : (S.sort l).Pairwise fun a b => S.le a b = true := sort_pairwise S.tot l
/-- what is sorted without repetitions is one list -/
theorem Sk.one {l m : List α} (hl : l.Pairwise fun a b => S.le a b = true) (hm : m.Pairwise fun a b => S.le a b = true) (nl : l.Nodup) (nm : m.Nodup) (h : ∀ a, a ∈ l ↔ a ∈ m) : l = m :=
  List.Perm.eq_of_pairwise (le := fun a b => S.le a b = true) (fun a b _ _ h1 h2 => S.anti h1 h2) hl hm ((List.perm_ext_iff_of_nodup nl nm).mpr h)
theorem Sk.can {l : List α} (h1 : ∀ a ∈ l, (S.f a).lay = true) (h2 : ∀ a ∈ l, (S.f a).dp ≤ 64) : canSort (D.pys (l.map S.f)) = true := by
  rw [pys_map, List.map_map]
  unfold canSort
  simp only [Bool.and_eq_true, List.all_eq_true, decide_eq_true_eq, List.mem_map, Function.comp, forall_exists_index, and_imp, forall_apply_eq_imp_iff₂]
  refine ⟨⟨⟨fun a _ => S.plain a, fun a _ b _ => S.akin a b⟩, fun a ha => ⟨by rw [D.py_lay]; exact h1 a ha, by rw [D.py_dp]; exact h2 a ha⟩⟩, ?_⟩
  cases l with
  | nil => rfl
  | cons b l =>
    simp only [List.map_cons, Bool.and_eq_true, decide_eq_true_eq, List.all_eq_true, Function.comp]
    rw [S.first b]
    refine ⟨S.lt, fun d hd => ?_⟩
    rcases List.mem_cons.mp hd with e | hd
    · rw [e]
      exact S.first b
    · obtain ⟨a, _, rfl⟩ := List.mem_map.mp hd
      exact S.first a
theorem Sk.flats (l : List α) : D.flats (l.map S.f) = true := by
  rw [flats_iff]
  intro d hd
  obtain ⟨a, _, rfl⟩ := List.mem_map.mp hd
  exact D.nb_flat _ (S.nb a)
end
/-! ### each once: of a sorted list -/
section
variable {α : Type} [DecidableEq α]
def ddS (acc : List α) (a : α) : List α := if acc.getLast? = some a then acc else acc ++ [a]
def dd (l : List α) : List α := l.foldl ddS []
end
/-! ### what is collected -/
structure ColOk (φ : Fm) (ks : List Fm) (r : List Fm) : Prop where
  nd : r.Nodup
  sub : ∀ χ ∈ ks, χ ∈ r
  sup : ∀ χ ∈ r, χ ∈ ks ∨ χ ∈ φ.all
  all : ∀ χ ∈ φ.all, χ ∈ r
  len : r.length ≤ ks.length + φ.sz
end Fx
/-! Statements behind which what they have made stands still. -/
namespace Fx
open PySem PySem.Spec L2
/-- what stands behind: the objects that were there ahead; the rest is told -/
def cutW (n m : Nat) (w : List D) : Option (List D) := if m ≤ w.length ∧ (w.take m).all (D.under (n + m)) = true then some (w.take m) else none
section
variable {C : Cfg} {W : WX} {ρ ρ' : Zn} {H H' : Hp} {ro w w' w2 : List D} {σ : L2.St} {env : Env}
theorem cutW_some {n m : Nat} (h : cutW n m w = some w2) : m ≤ w.length ∧ (w.take m).all (D.under (n + m)) = true ∧ w2 = w.take m := by
  unfold cutW at h
  split at h
  · rename_i c
    cases h
    exact ⟨c.1, c.2, rfl⟩
  · cases h
theorem split_at (h : w.length ≤ w'.length) : ro ++ w' = (ro ++ w'.take w.length) ++ w'.drop w.length := by
  rw [List.append_assoc, List.take_append_drop]
theorem cut_len (h : w.length ≤ w'.length) : (ro ++ w'.take w.length).length = ro.length + w.length := by
  rw [List.length_append, List.length_take, Nat.min_eq_left h]
theorem tell_back (hS : RepS C ρ H (ro ++ w)) (hc : cutW ro.length w.length w' = some w2) (x : Ext ρ ρ' H H') (s : RepS C ρ' H' (ro ++ w')) : Ext ρ (ρ'.take (ro.length + w.length)) H H' ∧ RepS C (ρ'.take (ro.length + w.length)) H' (ro ++ w2) := by
  obtain ⟨h1, h2, rfl⟩ := cutW_some hc
  have hlen : ρ.r.length = ro.length + w.length := by rw [hS.len, List.length_append]
  obtain ⟨⟨ν, p⟩, g1, k1, m1⟩ := x
  refine ⟨⟨⟨[], ?_⟩, g1, fun a o e n => ⟨(k1 a o e n).1, Out.take (k1 a o e n).2⟩, m1⟩, ?_⟩
  · show ρ'.r.take _ = _
    rw [p, ← hlen, List.take_left', List.append_nil]
    rfl
  · have z := RepS.take (n := ro.length + w.length) s fun i d hi hd => ?_
    · rw [split_at h1, List.take_left' (cut_len h1)] at z
      exact z
    · by_cases c : i < ro.length
      · rw [List.getElem?_append_left c] at hd
        have hr : i < ρ.r.length := by omega
        have := RepO.below (hS.obj i ρ.r[i] d (List.getElem?_eq_getElem hr) (by rw [List.getElem?_append_left c]; exact hd))
        rw [hlen] at this
        exact this
      · rw [List.getElem?_append_right (by omega)] at hd
        refine List.all_eq_true.mp h2 d (List.mem_of_getElem? (i := i - ro.length) ?_)
        rw [List.getElem?_take_of_lt (by omega)]
        exact hd
end
section
variable {X : Cx} {W : WX} {st : Stmt} {sts rest : List Stmt} {s t : SF}
end
section
variable {ro w : List D} {env : Env} {s : SF}
end
end Fx
/-! Own classes: fields, methods, new instances. -/
namespace Fx
open PySem PySem.Spec L2
/-! ### fields -/
def fieldV : List Str → List D → Str → Option D
  | n :: ns, x :: xs, f => if f = n then some x else fieldV ns xs f
  | _, _, _ => none
def putI : List Str → List D → Str → D → List Str × List D
  | n :: ns, x :: xs, f, d => if n = f then (n :: ns, d :: xs) else (n :: (putI ns xs f d).1, x :: (putI ns xs f d).2)
  | _, _, f, d => ([f], [d])
/-- what is known of a class: where it stands, which names are no attributes of it -/
structure ClX (K : PySem.W.Frag) (mg : Str → Option Value) (c : Str) (fs : List Str) : Prop where
  ex : ∃ A, mg c = some (.ref A) ∧ Cls K A ∧ ∀ f ∈ fs, NoAttr K A f
def gFld (c f : Str) (d : D) : M D := match d with
  | .ins c' ns xs => if c' = c then (match fieldV ns xs f with
    | some x => M.pure x
    | none => M.no) else M.no
  | _ => M.no
def cFld (c f : Str) (fo : EF) : EF := fun env => M.bind (fo env) fun o => M.bind (M.see o) fun o => gFld c f o
def gSetF (c f : Str) (v o : D) : M D := match o with
  | .ref n => fun ro w => if n < ro.length then .no else match w[n - ro.length]? with
    | some (.ins c' ns xs) => if c' = c ∧ ns.length < 1000 then .ok .non (w.set (n - ro.length) (.ins c (putI ns xs f v).1 (putI ns xs f v).2)) else .no
    | _ => .no
  | _ => M.no
def sSetF (c f : Str) (fo fv : EF) : SF := sLift fv fun v => sLift fo fun o => sLift (fun _ => gSetF c f v o) fun _ env _ w => .go .nx env w
section
variable {C : Cfg} {ρ : Zn} {H : Hp} {ro w : List D}
theorem fieldV_rep {f : Str} {d : D} : ∀ {fs : List (Str × V)} {xs : List D}, fieldV (fs.map (·.1)) xs f = some d → Reps C ρ H xs (fs.map (·.2)) → ∃ v, fs.lookup f = some v ∧ Rep C ρ H d v
  | [], xs, h, _ => by cases xs <;> cases h
  | p :: fs, [], h, _ => by cases h
  | p :: fs, x :: xs, h, ⟨v, r, e, h1, h2⟩ => by
    simp only [List.map_cons, List.cons.injEq] at e
    obtain ⟨e1, e2⟩ := e
    subst e1 e2
    simp only [List.map_cons, fieldV] at h
    obtain ⟨k, u⟩ := p
    by_cases c : f = k
    · rw [if_pos c] at h
      cases h
      exact ⟨u, by rw [List.lookup_cons, beq_iff_eq.mpr c], h1⟩
    · rw [if_neg c] at h
      obtain ⟨v, g1, g2⟩ := fieldV_rep h h2
      exact ⟨v, by rw [List.lookup_cons, beq_eq_false_iff_ne.mpr c]; exact g1, g2⟩
theorem putI_rep {f : Str} {d : D} {v : V} (hd : Rep C ρ H d v) : ∀ {fs : List (Str × V)} {xs : List D}, Reps C ρ H xs (fs.map (·.2)) → (putI (fs.map (·.1)) xs f d).1 = (putF f v fs).map (·.1) ∧ Reps C ρ H (putI (fs.map (·.1)) xs f d).2 ((putF f v fs).map (·.2))
  | [], xs, h => ⟨by cases xs <;> rfl, by
    have e : putI ([].map fun (p : Str × V) => p.1) xs f d = ([f], [d]) := by cases xs <;> rfl
    rw [e]
    exact Reps.one hd⟩
  | p :: fs, [], h => by simp [Reps] at h
  | p :: fs, x :: xs, ⟨u, r, e, h1, h2⟩ => by
    simp only [List.map_cons, List.cons.injEq] at e
    obtain ⟨e1, e2⟩ := e
    subst e1 e2
    obtain ⟨k, u⟩ := p
    have eF : putF f v ((k, u) :: fs) = if k = f then (k, v) :: fs else (k, u) :: putF f v fs := rfl
    have eI : putI (((k, u) :: fs).map (·.1)) (x :: xs) f d = if k = f then (k :: fs.map (·.1), d :: xs) else (k :: (putI (fs.map (·.1)) xs f d).1, x :: (putI (fs.map (·.1)) xs f d).2) := rfl
    rw [eF, eI]
    by_cases c : k = f
    · rw [if_pos c, if_pos c]
      exact ⟨rfl, v, _, rfl, hd, h2⟩
    · rw [if_neg c, if_neg c]
      obtain ⟨g1, g2⟩ := putI_rep (f := f) hd h2
      exact ⟨by simp only [List.map_cons, g1], u, _, rfl, h1, g2⟩
theorem Seen.ins {c : Str} {ns : List Str} {xs : List D} {v : V} (h : Seen C ρ H (.ins c ns xs) v) : ∃ a A dx fs, v = .ref a ∧ C.mg c = some (.ref A) ∧ H a = some (.ins A dx fs) ∧ ns = fs.map (·.1) ∧ Reps C ρ H xs (fs.map (·.2)) := by
  rcases h with ⟨a, A, dx, fs, e, m, n, h, k, r⟩ | ⟨a, e, A, dx, fs, m, h, k, r⟩
  · exact ⟨a, A, dx, fs, e, m, h, k, r⟩
  · exact ⟨a, A, dx, fs, e, m, h, k, r⟩
end
section
variable {X : Cx} {W : WX} {pos pos' apos : Pos} {o e : Expr} {es : List Expr} {c f m x : Str} {fs : List Str} {fo fv : EF}
theorem pf_fld (T : ClX X.K X.mg c fs) (ho : PE X o (tE (cfg X) W fo)) (hf : f ∈ fs := by decide) (hb : attributeBase o f X.env (eval o X.env) = eval o X.env := by rfl) : PE X (.Attribute o f pos) (tE (cfg X) W (cFld c f fo)) := pe_imp (pe_fld ho hb) fun σ H Q ⟨ρ, env, ro, w, hS, hE, q⟩ => by
  refine tR_seq hS hE q fun d w1 v ρ1 H1 x1 s1 r1 q1 => ?_
  have sd := seen_of s1 r1
  have q2 : AfterR (cfg X) (Rep (cfg X)) W σ ρ1 H1 ro (gFld c f (see ro w1 d) ro w1) Q := q1
  generalize see ro w1 d = d' at sd q2
  unfold gFld at q2
  cases d' with
  | ins c' ns xs =>
    simp only at q2
    by_cases cc : c' = c
    · subst cc
      rw [if_pos rfl] at q2
      cases ef : fieldV ns xs f with
      | none => rw [ef] at q2; exact (show False from q2).elim
      | some y =>
        rw [ef] at q2
        obtain ⟨a, A, dx, fl, rfl, hm, ha, rfl, r⟩ := sd.ins
        obtain ⟨v', l, rv⟩ := fieldV_rep ef r
        obtain ⟨A', hm', cl, na⟩ := T.ex
        cases hm.symm.trans hm'
        exact ⟨a, A, dx, fl, v', rfl, ha, cl, na f hf, l, ok_same s1 rv q2⟩
    · rw [if_neg cc] at q2
      exact (show False from q2).elim
  | _ => exact (show False from q2).elim
theorem f_setF (T : ClX X.K X.mg c fs) (ho : PE X o (tE (cfg X) W fo)) (hv : PE X e (tE (cfg X) W fv)) (hf : f ∈ fs := by decide) (hs : swapsWith e (some (.Attribute o f pos')) pos.line X.env = pure false := by rfl) : PS X (.Assign [.Attribute o f pos'] e pos) (tS (cfg X) W (sSetF c f fo fv)) := ps_imp (ps_fld ho hv hs) fun D σ H ⟨ρ, env, ro, w, hS, hE, q⟩ => by
  refine tS_seq hS hE q fun dv w1 v ρ1 H1 x1 s1 e1 r1 q1 => ?_
  refine tS_seq s1 e1 q1 fun d w2 vo ρ2 H2 x2 s2 e2 r2 q2 => ?_
  have rv := Rep.ext x2 dv r1
  have q3 : AfterR (cfg X) (Rep (cfg X)) W σ ρ2 H2 ro (gSetF c f dv d ro w2) (fun _ H4 => D.nx σ H4) :=
    lift_after (f := fun _ => gSetF c f dv d) e2 q2 fun z w4 v4 ρ4 H4 x4 s4 e4 r4 q4 => q4 σ ρ4 H4 .refl s4 e4
  unfold gSetF at q3
  cases d with
  | ref n =>
    simp only at q3
    by_cases c1 : n < ro.length
    · rw [if_pos c1] at q3
      exact (show False from q3).elim
    · rw [if_neg c1] at q3
      obtain ⟨a, ha, rfl⟩ := r2
      cases eo : w2[n - ro.length]? with
      | none => rw [eo] at q3; exact (show False from q3).elim
      | some d0 =>
        rw [eo] at q3
        have hn : (ro ++ w2)[n]? = some d0 := by
          rw [List.getElem?_append_right (by omega)]
          exact eo
        cases d0 with
        | ins c' ns xs =>
          simp only at q3
          by_cases c2 : c' = c ∧ ns.length < 1000
          · rw [if_pos c2] at q3
            obtain ⟨rfl, hl⟩ := c2
            obtain ⟨A, dx, fl, hm, hH, rfl, r⟩ := s2.obj n a _ ha hn
            obtain ⟨A', hm', cl, na⟩ := T.ex
            cases hm.symm.trans hm'
            obtain ⟨g1, g2⟩ := putI_rep (f := f) rv r
            refine ⟨a, A, dx, fl, rfl, hH, cl, na f hf, by simpa using hl, ?_⟩
            exact ok_put (o := .ins A dx (putF f v fl)) (d := .ins c' (putI (fl.map (·.1)) xs f dv).1 (putI (fl.map (·.1)) xs f dv).2) (e := .non) (v := .non) s2 c1 ha (fun H' x' e' => ⟨A, dx, putF f v fl, hm, e', g1, Reps.ext x' _ g2⟩) rfl q3
          · rw [if_neg c2] at q3
            exact (show False from q3).elim
        | _ => exact (show False from q3).elim
  | _ => exact (show False from q3).elim
end
/-! ### what is called -/
/-- a call of what stands at A does what g says -/
def CallsTo (X : Cx) (A : Addr) (g : List D → M D) (np : Nat) : Prop := ∀ (pins : List (Addr × Obj)) (s : Shared) (σ : L2.St) (H : Hp) (us : List Value) (vs : List V) (Q : VK) (E : XK), PassesAt (L2.CX X.prog X.w) X σ E → Inv X pins σ H s → Vals vs us →
  spF (cfg X) g np vs H Q E → wpAny (model X.prog X.w) X.A (call (.ref A) us) (EP X pins σ Q) X.xe s
structure MakeOk (P : Program) (w : World) (K : PySem.W.Frag) (mg : Str → Option Value) (base : Heap) (n : Nat) (c : Str) (g : List D → M D) (np : Nat) : Prop where
  ex : ∃ A, mg c = some (.ref A) ∧ PySem.W.keepIn K (.ref A) = true ∧ ∀ X : Cx, X.prog = P → X.w = w → X.K = K → X.mg = mg → X.base = base → Room n X.A → CallsTo X A g np
abbrev MakeX (X : Cx) (n : Nat) (x : Str) (g : List D → M D) (np : Nat) : Prop := MakeOk X.prog X.w X.K X.mg X.base n x g np
/-- a method m of the class c -/
structure MethOk (P : Program) (w : World) (K : PySem.W.Frag) (mg : Str → Option Value) (base : Heap) (n : Nat) (c m : Str) (g : List D → M D) (np : Nat) : Prop where
  ex : ∃ A f, mg c = some (.ref A) ∧ Cls K A ∧ Meth K A m f ∧ ∀ X : Cx, X.prog = P → X.w = w → X.K = K → X.mg = mg → X.base = base → Room n X.A → CallsTo X f g np
abbrev MethX (X : Cx) (n : Nat) (c m : Str) (g : List D → M D) (np : Nat) : Prop := MethOk X.prog X.w X.K X.mg X.base n c m g np
/-- a new instance, its __init__ called -/
def mkD (c : Str) (g : List D → M D) : List D → M D := fun ds ro w => match g (.ref (ro.length + w.length) :: ds) ro (w ++ [.ins c [] []]) with
  | .ok .non w' => .ok (.ref (ro.length + w.length)) w'
  | .exn c ns xs w' => .exn c ns xs w'
  | _ => .no
def cMeth (c m : Str) (g : List D → M D) (fo : EF) (fs : Env → M (List D)) : EF := fun env => M.bind (fo env) fun o => M.bind (M.see o) fun o' => match o' with
  | .ins c' ns _ => if c' = c ∧ m ∉ ns then M.bind (fs env) fun ds => g (o :: ds) else M.no
  | _ => M.no
section
variable {X : Cx} {W : WX} {pos p apos : Pos} {o e : Expr} {es : List Expr} {c m x : Str} {fo : EF} {fs : Env → M (List D)} {g : List D → M D} {n np : Nat}
theorem meth_read {Q : VK} {σ : L2.St} {H : Hp} {A : Addr} (hm : X.mg c = some (.ref A)) (q : tE (cfg X) W (cMeth c m (fun ds : List D => if ds.length = np then g ds else M.no) fo fs) σ H Q) : tE (cfg X) W fo σ H fun x H1 => ∃ a dx fl, x = .ref a ∧ H1 a = some (.ins A dx fl) ∧ fl.lookup m = none ∧
    tA (cfg X) W fs σ H1 fun vs H2 => spF (cfg X) g np (x :: vs) H2 Q (WE W σ) := by
  obtain ⟨ρ, env, ro, w, hS, hE, q⟩ := q
  refine tR_seq hS hE q fun d w1 v ρ1 H1 x1 s1 r1 q1 => ?_
  have sd := seen_of s1 r1
  replace q1 : AfterR (cfg X) (Rep (cfg X)) W σ ρ1 H1 ro ((match see ro w1 d with
    | .ins c' ns _ => if c' = c ∧ m ∉ ns then M.bind (fs env) fun ds => (fun ds : List D => if ds.length = np then g ds else M.no) (d :: ds) else M.no
    | _ => M.no) ro w1) Q := q1
  generalize see ro w1 d = d' at sd q1
  cases d' with
  | ins c' ns xs =>
    simp only at q1
    by_cases cc : c' = c ∧ m ∉ ns
    · rw [if_pos cc] at q1
      obtain ⟨rfl, nm⟩ := cc
      obtain ⟨a, A', dx, fl, rfl, hm', ha, rfl, r⟩ := sd.ins
      cases hm.symm.trans hm'
      refine ⟨a, dx, fl, rfl, ha, ?_, ?_⟩
      · cases e : fl.lookup m with
        | none => rfl
        | some z =>
          exfalso
          apply nm
          clear r ha sd q1 nm
          induction fl with
          | nil => cases e
          | cons p fl ih =>
            rw [List.lookup_cons] at e
            by_cases k : m = p.1
            · rw [k]
              exact List.mem_cons_self
            · rw [beq_eq_false_iff_ne.mpr k] at e
              exact List.mem_cons_of_mem _ (ih e)
      · refine tR_seq s1 (hE.ext x1) q1 fun ds w2 vs ρ2 H2 x2 s2 r2 q2 => ?_
        have q3 : AfterR (cfg X) (Rep (cfg X)) W σ ρ2 H2 ro ((if (d :: ds).length = np then g (d :: ds) else M.no) ro w2) Q := q2
        by_cases cl : (d :: ds).length = np
        · rw [if_pos cl] at q3
          have r3 : Reps (cfg X) ρ2 H2 (d :: ds) (.ref a :: vs) := ⟨_, _, rfl, Rep.ext x2 d r1, r2⟩
          exact ⟨ρ2, d :: ds, ro, w2, by rw [← r3.len]; exact cl, s2, r3, q3.sig⟩
        · rw [if_neg cl] at q3
          exact (show False from q3).elim
    · rw [if_neg cc] at q1
      exact (show False from q1).elim
  | _ => exact (show False from q1).elim
theorem pf_meth {pl : Sem Bool} (F : MethX X n c m g np) (hr : Room n X.A) (hx : PassW X W) (ho : PE X o (tE (cfg X) W fo)) (ha : PA X (e :: es) (tA (cfg X) W fs))
    (hst : starEach (e :: es) X.env = (false, eval e X.env) :: starEach es X.env := by rfl) (hpl : (backTo pos (starEach es X.env)).any (·.1) = false := by rfl)
    (ht : eval (.Call (.Attribute o m apos) (e :: es) [] pos) X.env = (do let ov ← eval o X.env; standAt apos.atName; let (f, first) ← holding [ov] (getMethod ov m pl); callWith pos f first (backTo pos (starEach (e :: es) X.env)) (backToKw pos (keywordEach [] X.env))) := by rfl) :
    PE X (.Call (.Attribute o m apos) (e :: es) [] pos) (tE (cfg X) W (cMeth c m (fun ds => if ds.length = np then g ds else M.no) fo fs)) := by
  obtain ⟨A, f, hm, cl, mt, to⟩ := F.ex
  have to := to X rfl rfl rfl rfl rfl hr
  refine ⟨fun pins s σ H Q I q => PySem.W.methodCall_KW (pl := pl) (thn (ho.run pins s σ H _ I (meth_read hm q)) fun u s1 ⟨x, H1, I1, rx, a, dx, fl, ex, ea, l, q1⟩ => ?_) ht⟩
  subst ex
  obtain rfl : u = Value.ref a := rx
  refine getmeth_ok I1 ea cl mt l (PySem.W.callWith_K (first := [.ref a]) (h₀ := X.base) I.ok.mod.kin mt.kp (thn (ha.run pos pins s1 σ H1 _ I1 q1) fun us s2 ⟨vs, H2, I2, r, q2⟩ => ⟨I2.kIn, ?_⟩) hst hpl)
  exact to pins s2 σ H2 (.ref a :: us) (.ref a :: vs) Q (WE W σ) (hx σ) I2 (.cons rfl r) q2
theorem pf_meth0 {pl : Sem Bool} (F : MethX X n c m g np) (hr : Room n X.A) (hx : PassW X W) (ho : PE X o (tE (cfg X) W fo))
    (ht : eval (.Call (.Attribute o m apos) [] [] pos) X.env = (do let ov ← eval o X.env; standAt apos.atName; let (f, first) ← holding [ov] (getMethod ov m pl); callWith pos f first (backTo pos (starEach [] X.env)) (backToKw pos (keywordEach [] X.env))) := by rfl) :
    PE X (.Call (.Attribute o m apos) [] [] pos) (tE (cfg X) W (cMeth c m (fun ds => if ds.length = np then g ds else M.no) fo (cArgs []))) := by
  obtain ⟨A, f, hm, cl, mt, to⟩ := F.ex
  have to := to X rfl rfl rfl rfl rfl hr
  refine ⟨fun pins s σ H Q I q => PySem.W.methodCall_KW (pl := pl) (thn (ho.run pins s σ H _ I (meth_read hm q)) fun u s1 ⟨x, H1, I1, rx, a, dx, fl, ex, ea, l, q1⟩ => ?_) ht⟩
  subst ex
  obtain rfl : u = Value.ref a := rx
  obtain ⟨ρ, env, ro, w, hS, hE, q2⟩ := q1
  refine getmeth_ok I1 ea cl mt l (PySem.W.callWith_K0 (first := [.ref a]) I1.kIn mt.kp ?_)
  exact to pins s1 σ H1 [.ref a] [.ref a] Q (WE W σ) (hx σ) I1 (.cons rfl .nil) (q2 [] ρ H1 .refl hS rfl)
end
/-! ### what is called does what the def says -/
section
variable {X : Cx} {g : List D → M D} {np : Nat}
theorem after_pure {C : Cfg} {W : WX} {σ : L2.St} {ρ : Zn} {H : Hp} {ro v ds : List D} {Q : VK} (hS : RepS C ρ H (ro ++ v)) (q : AfterR C (Rep C) W σ ρ H ro (pureD g ds ro v) Q) : AfterR C (Rep C) W σ ρ H (ro ++ v) (g ds (ro ++ v) []) Q := by
  have hlen : ρ.r.length = (ro ++ v).length := hS.len
  have back : ∀ {ρ' : Zn} {H' : Hp} {w' : List D}, Ext ρ ρ' H H' → RepS C ρ' H' ((ro ++ v) ++ w') → Ext ρ (ρ'.take (ro ++ v).length) H H' ∧ RepS C (ρ'.take (ro ++ v).length) H' (ro ++ v) := by
    intro ρ' H' w' x s
    have hl : w'.length ≥ ([] : List D).length := Nat.zero_le _
    obtain ⟨a, b⟩ := tell_back (ro := ro ++ v) (w := []) (w' := w') (w2 := []) (by rw [List.append_nil]; exact hS) (by unfold cutW; rw [if_pos ⟨Nat.zero_le _, rfl⟩]; rfl) x s
    rw [List.append_nil] at b
    exact ⟨a, b⟩
  unfold pureD at q
  cases e : g ds (ro ++ v) [] with
  | no =>
    simp only [e] at q
    exact q
  | ok d w' =>
    simp only [e] at q
    cases et : D.tell (told (ro ++ v).length w' 4) d with
    | none =>
      simp only [et] at q
      exact (show False from q).elim
    | some d' =>
      simp only [et] at q
      intro u ρ' H' x s r
      obtain ⟨x2, s2⟩ := back x s
      exact q u _ H' x2 s2 (Rep.tell (told_ok s 4) d et r)
  | exn c ns xs w' =>
    simp only [e] at q
    cases et : D.tells (told (ro ++ v).length w' 4) xs with
    | none =>
      simp only [et] at q
      exact (show False from q).elim
    | some xs' =>
      simp only [et] at q
      intro cls dx ρ' H' x s r
      obtain ⟨x2, s2⟩ := back x s
      exact q cls dx _ H' x2 s2 (RepX.tell (told_ok s 4) et r)
theorem CallsTo.pure {A : Addr} (h : CallsTo X A g np) : CallsTo X A (pureD g) np := by
  intro pins s σ H us vs Q E hx I r ⟨ρ, ds, ro, w, hl, hS, hR, q⟩
  exact h pins s σ H us vs Q E hx I r ⟨ρ, ds, ro ++ w, [], hl, by rw [List.append_nil]; exact hS, hR, after_pure hS q⟩
theorem calls_no {A : Addr} : CallsTo X A (fun _ => M.no) np := by
  rintro pins s σ H us vs Q E hx I r ⟨ρ, ds, ro, w, hl, hS, hR, q⟩
  exact (show False from q).elim
theorem CallsTo.fn {f : Addr} {fd : FuncData} {ps : List Str} {k : Nat} (F : FnOk X.prog X.w X.K X.mg X.base (L2.CX X.prog X.w) k f fd ps (spF (cfg X) g np)) (hb : Binds X.K fd ps []) (hr : Room k X.A) : CallsTo X f g np :=
  fun pins s σ H us vs Q E hx I r q => run_fnS (E := fun _ => E) F hr hb hx I r q
theorem run_mk {f A : Addr} {fd : FuncData} {ps : List Str} {k : Nat} {sp : Sp} {E : XK} {pins : List (Addr × Obj)} {σ : L2.St} {H : Hp} {s : Shared} {Q : VK} {us : List Value} {vs : List V} (M : Mk X.K A f) (F : FnOk X.prog X.w X.K X.mg X.base (L2.CX X.prog X.w) k f fd ps sp) (hr : Room (k + 1) X.A) (hb : Binds X.K fd ps [])
    (hx : PassesAt (L2.CX X.prog X.w) X σ E) (I : Inv X pins σ H s) (r : Vals vs us)
    (h : ∀ x dx, H x = none → H dx = none → dx ≠ x → sp (.ref x :: vs) (upd (upd H dx (.own x)) x (.ins A dx [])) (fun v H2 => v = .non ∧ Q (.ref x) H2) E) :
    wpAny (model X.prog X.w) X.A (call (.ref A) us) (EP X pins σ Q) X.xe s := by
  have I2 := Inv.made (C := A) I
  have q0 := h (s.heap.objs.size + 1) s.heap.objs.size (I.hok.fresh (Nat.le_succ _)) (I.hok.fresh (Nat.le_refl _)) (Nat.ne_of_lt (Nat.lt_succ_self _))
  have r2 : Vals (V.ref (s.heap.objs.size + 1) :: vs) (Value.ref (s.heap.objs.size + 1) :: us) := .cons rfl r
  have hl : (Value.ref (s.heap.objs.size + 1) :: us).length = ps.length := r2.length.symm.trans (F.len _ _ _ _ q0)
  have bt := hb _ (Value.ref (s.heap.objs.size + 1) :: us) I2.kIn (by rw [List.append_nil]; exact hl)
  rw [List.append_nil] at bt
  have rn := F.run _ X.stack _ _ ⟨Value.ref (s.heap.objs.size + 1) :: us, []⟩ (Value.ref (s.heap.objs.size + 1) :: us) _ _ E (hr.make A us []) (I2.env0.make A us []) bt r2 q0
  refine wpAny_call (make_map (f := f) I.kIn M.makes M.init (beq_iff_eq.mp M.fn) (codeAny_mono rn fun y s' hq => ?_))
  cases y with
  | error e => exact hx pins _ _ e s' I2 hq
  | ok fl =>
    cases fl with
    | ret u =>
      obtain ⟨v, H', I3, rv, ev, q3⟩ := I2.after hq
      subst ev
      exact ⟨rv, ⟨V.ref (s.heap.objs.size + 1), H', I3, rfl, q3⟩⟩
    | next => exact False.elim hq
    | brk => exact False.elim hq
    | cont => exact False.elim hq
theorem CallsTo.mk {f A : Addr} {fd : FuncData} {ps : List Str} {k : Nat} {c : Str} (hm : X.mg c = some (.ref A)) (M : Mk X.K A f) (F : FnOk X.prog X.w X.K X.mg X.base (L2.CX X.prog X.w) k f fd ps (spF (cfg X) g (np + 1))) (hb : Binds X.K fd ps []) (hr : Room (k + 1) X.A) : CallsTo X A (mkD c g) np := by
  rintro pins s σ H us vs Q E hx I r ⟨ρ, ds, ro, w, hl, hS, hR, q⟩
  refine run_mk M F hr hb hx I r fun x dx hxn hdn ne => ?_
  have x1 : Ext ρ ρ H (upd H dx (.own x)) := ext_new hS hdn
  have s1 : RepS (cfg X) ρ (upd H dx (.own x)) (ro ++ w) := reps_new hS hdn
  have hx1 : (upd H dx (.own x)) x = none := by rw [upd_ne (Ne.symm ne)]; exact hxn
  have x2 : Ext ρ ⟨ρ.r ++ [x], ρ.h⟩ (upd H dx (.own x)) (upd (upd H dx (.own x)) x (.ins A dx [])) := ext_mut s1 hx1
  have s2 : RepS (cfg X) ⟨ρ.r ++ [x], ρ.h⟩ (upd (upd H dx (.own x)) x (.ins A dx [])) (ro ++ (w ++ [.ins c [] []])) := by
    rw [← List.append_assoc]
    exact reps_mut s1 hx1 ⟨A, dx, [], hm, upd_same, rfl, rfl⟩
  have e : ρ.r.length = ro.length + w.length := by rw [hS.len, List.length_append]
  have rx : Rep (cfg X) ⟨ρ.r ++ [x], ρ.h⟩ (upd (upd H dx (.own x)) x (.ins A dx [])) (.ref (ro.length + w.length)) (.ref x) := ⟨x, by
    show (ρ.r ++ [x])[_]? = _
    rw [← e, List.getElem?_append_right (Nat.le_refl _), Nat.sub_self]
    rfl, rfl⟩
  have x3 := x1.trans x2
  refine ⟨_, .ref (ro.length + w.length) :: ds, ro, w ++ [.ins c [] []], by simp [hl], s2, ⟨_, _, rfl, rx, Reps.ext x3 ds hR⟩, ?_⟩
  unfold mkD at q
  cases eo : g (.ref (ro.length + w.length) :: ds) ro (w ++ [.ins c [] []]) with
  | no => rw [eo] at q; exact (show False from q).elim
  | exn c' ns xs w' =>
    rw [eo] at q
    exact fun cls dx' ρ' H' y s r => q cls dx' ρ' H' (x3.trans y) s r
  | ok d w' =>
    rw [eo] at q
    cases d with
    | non =>
      intro v ρ' H' y s rv
      exact ⟨rv, q (.ref x) ρ' H' (x3.trans y) s (Rep.ext y (.ref (ro.length + w.length)) rx)⟩
    | _ => exact (show False from q).elim
end
section
variable {P : Program} {w : World} {K : PySem.W.Frag} {mg : Str → Option Value} {base : Heap} {n np : Nat} {c m : Str} {g : List D → M D}
theorem make_no {A : Addr} (hm : mg c = some (.ref A)) (hk : PySem.W.keepIn K (.ref A) = true) : MakeOk P w K mg base n c (fun _ => M.no) np := ⟨A, hm, hk, fun X _ _ _ _ _ _ => calls_no⟩
theorem make_ok {A f : Addr} {fd : FuncData} {ps : List Str} (hm : mg c = some (.ref A)) (M : Mk K A f) (F : FnOk P w K mg base (L2.CX P w) n f fd ps (spF ⟨K, mg, w⟩ g (np + 1))) (hb : Binds K fd ps []) : MakeOk P w K mg base (n + 1) c (mkD c g) np :=
  ⟨A, hm, M.kp, fun X e1 e2 e3 e4 e5 hr => by
    subst e1 e2 e3 e4 e5
    exact CallsTo.mk hm M F hb hr⟩
theorem meth_no {A f : Addr} (hm : mg c = some (.ref A)) (cl : Cls K A) (mt : Meth K A m f) : MethOk P w K mg base n c m (fun _ => M.no) np := ⟨A, f, hm, cl, mt, fun X _ _ _ _ _ _ => calls_no⟩
theorem meth_ok {A f : Addr} {fd : FuncData} {ps : List Str} (hm : mg c = some (.ref A)) (cl : Cls K A) (mt : Meth K A m f) (F : FnOk P w K mg base (L2.CX P w) n f fd ps (spF ⟨K, mg, w⟩ g np)) (hb : Binds K fd ps []) : MethOk P w K mg base n c m g np :=
  ⟨A, f, hm, cl, mt, fun X e1 e2 e3 e4 e5 hr => by
    subst e1 e2 e3 e4 e5
    exact CallsTo.fn F hb hr⟩
end
/-! ### what they give -/
section
variable {ro w : List D} {env : Env} {fo fv : EF} {fs : Env → M (List D)} {c f m : Str} {g : List D → M D}
@[simp] theorem x_fld : cFld c f fo env ro w = (fo env ro w).an fun d w1 => gFld c f (see ro w1 d) ro w1 := by
  show M.bind (fo env) _ ro w = _
  simp
theorem fld_ins {ns : List Str} {xs : List D} {x : D} (h : fieldV ns xs f = some x) : gFld c f (.ins c ns xs) ro w = .ok x w := by
  unfold gFld
  simp only [if_pos, h]
  rfl
@[simp] theorem x_setF : sSetF c f fo fv env ro w = (fv env ro w).st env fun v w1 => (fo env ro w1).st env fun o w2 => (gSetF c f v o ro w2).st env fun _ w3 => .go .nx env w3 := by
  refine x_lift.trans (congrArg _ ?_)
  funext v w1
  refine x_lift.trans (congrArg _ ?_)
  funext o w2
  exact x_lift
theorem setF_at {v : D} {n : Nat} {ns : List Str} {xs : List D} (hn : ¬ n < ro.length) (h : w[n - ro.length]? = some (.ins c ns xs)) (hl : ns.length < 1000) : gSetF c f v (.ref n) ro w = .ok .non (w.set (n - ro.length) (.ins c (putI ns xs f v).1 (putI ns xs f v).2)) := by
  unfold gSetF
  simp [hn, h, hl]
theorem x_meth {ns : List Str} {xs : List D} {o : D} {w1 : List D} (h : fo env ro w = .ok o w1) (ho : see ro w1 o = .ins c ns xs) (hm : m ∉ ns) : cMeth c m g fo fs env ro w = (fs env ro w1).an fun ds w2 => g (o :: ds) ro w2 := by
  show M.bind (fo env) _ ro w = _
  rw [x_bind, h, an_ok]
  simp [ho, hm]
end
end Fx
/-! A constant table; what a suite returns; a < b < c; bits; x, y = e. -/
namespace Fx
open PySem PySem.Spec L2
/-! ### a constant dict with text keys -/
def KD (C : Cfg) (d : D) (v : V) : Prop := ∀ ρ H, Rep C ρ H d v
theorem kd_int {C : Cfg} {i : Int} : KD C (.int i) (.int i) := fun _ _ => rfl
structure TabK (C : Cfg) (x : Str) (rows : List (Str × D)) : Prop where
  ex : ∃ p, C.mg x = some (.ref p) ∧ ∀ q ∈ rows, ∃ v, KDct C.K C.w p q.1 v ∧ KD C q.2 v
def tabV : List (Str × D) → Str → Option D
  | [], _ => none
  | q :: r, x => if x = q.1 then some q.2 else tabV r x
theorem tabV_mem {x : Str} {d : D} : ∀ {rows : List (Str × D)}, tabV rows x = some d → (x, d) ∈ rows
  | [], h => by cases h
  | q :: r, h => by
    unfold tabV at h
    split at h
    · rename_i c
      cases h
      rw [c]
      exact List.mem_cons_self
    · exact List.mem_cons_of_mem _ (tabV_mem h)
def gTab (rows : List (Str × D)) (d : D) : M D := match d with
  | .str x => (match tabV rows x with
    | some v => M.pure v
    | none => M.no)
  | _ => M.no
def cTab (rows : List (Str × D)) (fe : EF) : EF := fun env => M.bind (fe env) fun d => M.bind (M.see d) fun d => gTab rows d
section
variable {X : Cx} {W : WX} {pos pos' : Pos} {a b e o : Expr} {x : Str} {rows : List (Str × D)} {fa fb fc fe : EF} {ta tb tc : Fx.Env → M Bool}
theorem pf_tab (T : TabK (cfg X) x rows) (hg : Gl X x) (he : PE X e (tE (cfg X) W fe)) (hs : PlainIx e) (hd : (x == ("__debug__" : Str)) = false := by decide) : PE X (.Subscript (.Name x pos') e pos) (tE (cfg X) W (cTab rows fe)) := by
  obtain ⟨p, hm, hr⟩ := T.ex
  refine pe_imp (pe_ix ix_kdict (pe_glob (v := .ref p) hg hm rfl hd) he hs) fun σ H Q ⟨ρ, env, ro, w, hS, hE, q⟩ => ?_
  refine tR_seq hS hE q fun d w1 v ρ1 H1 x1 s1 r1 q1 => ?_
  have sd := seen_of s1 r1
  have q2 : AfterR (cfg X) (Rep (cfg X)) W σ ρ1 H1 ro (gTab rows (see ro w1 d) ro w1) Q := q1
  generalize see ro w1 d = d' at sd q2
  unfold gTab at q2
  cases d' with
  | str z =>
    simp only at q2
    cases et : tabV rows z with
    | none => rw [et] at q2; exact (show False from q2).elim
    | some y =>
      rw [et] at q2
      obtain ⟨v', k1, k2⟩ := hr _ (tabV_mem et)
      exact ⟨p, z, v', rfl, sd.str, k1, ok_same s1 (k2 _ _) q2⟩
  | _ => exact (show False from q2).elim
end
section
variable {ro w : List D} {env : Fx.Env} {fe : EF} {rows : List (Str × D)}
@[simp] theorem x_tab : cTab rows fe env ro w = (fe env ro w).an fun d w1 => gTab rows (see ro w1 d) ro w1 := by
  show M.bind (fe env) _ ro w = _
  simp
theorem tab_str {x : Str} {d : D} (h : tabV rows x = some d) : gTab rows (.str x) ro w = .ok d w := by
  unfold gTab
  simp only [h]
  rfl
end
/-! ### what a suite returns -/
section
variable {X : Cx} {P : L2.St → Prop} {W : WX} {C : Cfg} {a b e : Expr} {rest : List Expr} {pos : Pos} {fa fb : EF}
end
/-! ### a < b < c -/
def cChain (g g' : D → D → M D) (fa fb fc : EF) : EF := fun env => M.bind (fa env) fun a => M.bind (fb env) fun b => M.bind (M.bind (M.see a) fun a' => M.bind (M.see b) fun b' => g a' b') fun z => match z with
  | .bl true => M.bind (fc env) fun c => M.bind (M.see b) fun b' => M.bind (M.see c) fun c' => g' b' c'
  | .bl false => M.pure (.bl false)
  | _ => M.no
section
variable {X : Cx} {W : WX} {C : Cfg} {pos : Pos} {a b c : Expr} {fa fb fc : EF} {op op' : CmpOp} {r r' : R2} {g g' : D → D → M D}
theorem tE_chain (hr : Ok2 C r g) (hr' : Ok2 C r' g') {σ : L2.St} {H : Hp} {Q : VK} (q : tE C W (cChain g g' fa fb fc) σ H Q) : tChain r r' (tE C W fa) (tE C W fb) (tE C W fc) σ H Q := by
  obtain ⟨ρ, env, ro, w, hS, hE, q⟩ := q
  refine tR_seq hS hE q fun da w1 va ρ1 H1 x1 s1 r1 q1 => ?_
  refine tR_seq s1 (hE.ext x1) q1 fun db w2 vb ρ2 H2 x2 s2 r2 q2 => ?_
  have sa := seen_of s2 (Rep.ext x2 da r1)
  have sb := seen_of s2 r2
  refine hr W σ ρ2 H2 ro w2 _ _ va vb _ s2 sa sb ?_
  have q3 : AfterR C (Rep C) W σ ρ2 H2 ro ((g (see ro w2 da) (see ro w2 db) ro w2).an fun z w3 => (match z with
      | .bl true => M.bind (fc env) fun c => M.bind (M.see db) fun b' => M.bind (M.see c) fun c' => g' b' c'
      | .bl false => M.pure (.bl false)
      | _ => M.no) ro w3) Q := by
    have q2' := q2
    simp only [x_bind, x_see, an_ok] at q2' ⊢
    exact q2'
  cases eg : g (see ro w2 da) (see ro w2 db) ro w2 with
  | no => rw [eg] at q3; exact q3
  | exn c ns xs w3 => rw [eg] at q3; exact q3
  | ok z w3 =>
    rw [eg] at q3
    intro v ρ3 H3 x3 s3 r3
    cases z with
    | bl k =>
      refine ⟨k, r3, ?_⟩
      cases k with
      | true =>
        rw [if_pos rfl]
        refine tR_seq s3 (((hE.ext x1).ext x2).ext x3) (AfterR.ext x3 q3) fun dc w4 vc ρ4 H4 x4 s4 r4 q4 => ?_
        exact hr' W σ ρ4 H4 ro w4 _ _ vb vc Q s4 (seen_of s4 (Rep.ext x4 db (Rep.ext x3 db r2))) (seen_of s4 r4) q4
      | false =>
        rw [if_neg (by decide)]
        exact ok_bl s3 (AfterR.ext x3 q3)
    | _ => exact (show False from q3).elim
theorem pt_chainF (ho : OpR X (compareOp op) r) (hr : Ok2 C r g) (ho' : OpR X (compareOp op') r') (hr' : Ok2 C r' g') (ha : PE X a (tE C W fa)) (hb : PE X b (tE C W fb)) (hc : PE X c (tE C W fc))
    (hm : lastMarks [op, op'] [b, c] = false := by with_unfolding_all rfl) : PT X (.Compare a [op, op'] [b, c] pos) (tT C W (cTest (cChain g g' fa fb fc))) := pt_imp (pt_chain ho ho' ha hb hc hm) fun σ H Q ⟨ρ, env, ro, w, hS, hE, q⟩ => by
  refine tE_chain hr hr' ⟨ρ, env, ro, w, hS, hE, ?_⟩
  unfold cTest M.bind at q
  cases e : cChain g g' fa fb fc env ro w with
  | ok d w1 =>
    rw [e] at q
    intro v ρ1 H1 x1 s1 r1
    cases d with
    | bl k => exact ⟨k, r1, q k ρ1 H1 x1 s1 rfl⟩
    | _ => exact (show False from q).elim
  | exn c ns xs w1 =>
    rw [e] at q
    exact q
  | no => rw [e] at q; exact q
end
/-! ### bits -/
def gBand (x y : D) : M D := match x, y with
  | .int i, .int j => M.pure (.int (Builtin.bitAnd i j))
  | _, _ => M.no
def gBor (x y : D) : M D := match x, y with
  | .int i, .int j => M.pure (.int (Builtin.bitOr i j))
  | _, _ => M.no
/-! ### x, y = e -/
def sAsg (t : Tg) (f : EF) : SF := sLift f fun d env _ w => match t.put d env with
  | some env' => .go .nx env' w
  | none => .no
section
variable {X : Cx} {W : WX} {pos : Pos} {tg e : Expr} {t : Tg} {f : EF}
theorem f_asg (hg : PG X tg (t.g X.K)) (he : PE X e (tE (cfg X) W f)) (hs : swapsWithSole [tg] e pos.line X.env = pure false := by rfl) (hw : swappedStores [tg] e X.env = pure none := by rfl) (h1 : (assignEach [tg] X.env).map (·.2) = [assign tg X.env] := by rfl) : PS X (.Assign [tg] e pos) (tS (cfg X) W (sAsg t f)) :=
  ps_imp (ps_asg he hg hs hw h1) fun D σ H ⟨ρ, env, ro, w, hS, hE, q⟩ => by
    refine tS_seq hS hE q fun d w1 v ρ1 H1 x1 s1 e1 r1 q1 => ?_
    cases ep : t.put d env with
    | none =>
      have q2 : AfterS (cfg X) W ρ1 H1 ro (match t.put d env with
        | some env' => .go .nx env' w1
        | none => .no) D := q1
      rw [ep] at q2
      exact (show False from q2).elim
    | some env' =>
      have q2 : AfterS (cfg X) W ρ1 H1 ro (match t.put d env with
        | some env' => .go .nx env' w1
        | none => .no) D := q1
      rw [ep] at q2
      exact Tg.ok (C := cfg X) e1 r1 ep fun vs e2 => q2 _ ρ1 H1 .refl s1 e2
end
section
variable {ro w : List D} {env env' : Fx.Env} {f fa fb fc : EF} {t : Tg} {i j : Int} {g g' : D → D → M D}
theorem x_asg {d : D} {w1 : List D} (h : f env ro w = .ok d w1) (hp : t.put d env = some env') : sAsg t f env ro w = .go .nx env' w1 := by
  refine x_lift.trans ?_
  rw [h, st_ok]
  simp only [hp]
@[simp] theorem band_int : gBand (.int i) (.int j) ro w = .ok (.int (Builtin.bitAnd i j)) w := rfl
@[simp] theorem bor_int : gBor (.int i) (.int j) ro w = .ok (.int (Builtin.bitOr i j)) w := rfl
@[simp] theorem x_chain : cChain g g' fa fb fc env ro w = (fa env ro w).an fun a w1 => (fb env ro w1).an fun b w2 => (g (see ro w2 a) (see ro w2 b) ro w2).an fun z w3 => match z with
    | .bl true => (fc env ro w3).an fun c w4 => g' (see ro w4 b) (see ro w4 c) ro w4
    | .bl false => .ok (.bl false) w3
    | _ => .no := by
  show M.bind (fa env) _ ro w = _
  simp only [x_bind, x_see, an_ok]
  congr
  funext a w1
  congr
  funext b w2
  congr
  funext z w3
  cases z with
  | bl k =>
    cases k with
    | true =>
      simp only [x_bind]
      congr
    | false => rfl
  | _ => rfl
end
end Fx
/-! Terms and their types: no program in sight. -/
namespace Fx
open PySem PySem.Spec L2
inductive Trm where
  | at (n : Nat) | fn (a : Fm) (t : Trm) | call (s t : Trm) | pair (s t : Trm) | fst (t : Trm) | snd (t : Trm)
  | inl (t : Trm) (b : Fm) | inr (t : Trm) (b : Fm) | cas (s t u : Trm) | abs (t : Trm) (b : Fm)
  deriving DecidableEq
namespace Trm
def toD : Trm → D
  | .at n => .tup [.str "at", .int n]
  | .fn a t => .tup [.str "fun", a.toD, t.toD]
  | .call s t => .tup [.str "call", s.toD, t.toD]
  | .pair s t => .tup [.str "pair", s.toD, t.toD]
  | .fst t => .tup [.str "first", t.toD]
  | .snd t => .tup [.str "second", t.toD]
  | .inl t b => .tup [.str "left", t.toD, b.toD]
  | .inr t b => .tup [.str "right", t.toD, b.toD]
  | .cas s t u => .tup [.str "case", s.toD, t.toD, u.toD]
  | .abs t b => .tup [.str "absurd", t.toD, b.toD]
def tag : Trm → String
  | .at _ => "at" | .fn _ _ => "fun" | .call _ _ => "call" | .pair _ _ => "pair" | .fst _ => "first" | .snd _ => "second"
  | .inl _ _ => "left" | .inr _ _ => "right" | .cas _ _ _ => "case" | .abs _ _ => "absurd"
def ht : Trm → Nat
  | .at _ => 1
  | .fn _ t => t.ht + 1
  | .call s t => max s.ht t.ht + 1
  | .pair s t => max s.ht t.ht + 1
  | .fst t => t.ht + 1
  | .snd t => t.ht + 1
  | .inl t _ => t.ht + 1
  | .inr t _ => t.ht + 1
  | .cas s t u => max s.ht (max t.ht u.ht) + 1
  | .abs t _ => t.ht + 1
theorem ht_pos (t : Trm) : 0 < t.ht := by cases t <;> simp [ht]
/-- the types that are written in it -/
def Over (P : Str → Prop) : Trm → Prop
  | .at _ => True
  | .fn a t => a.Over P ∧ t.Over P
  | .call s t => s.Over P ∧ t.Over P
  | .pair s t => s.Over P ∧ t.Over P
  | .fst t => t.Over P
  | .snd t => t.Over P
  | .inl t b => t.Over P ∧ b.Over P
  | .inr t b => t.Over P ∧ b.Over P
  | .cas s t u => s.Over P ∧ t.Over P ∧ u.Over P
  | .abs t b => t.Over P ∧ b.Over P
def callT : Fm → Fm → Option Fm
  | .imp a b, c => if a = c then some b else none
  | _, _ => none
def fstT : Fm → Option Fm
  | .and a _ => some a
  | _ => none
def sndT : Fm → Option Fm
  | .and _ b => some b
  | _ => none
def orT : Fm → Option (Fm × Fm)
  | .or a b => some (a, b)
  | _ => none
/-- its type -/
def ty : List Fm → Trm → Option Fm
  | Γ, .at n => Γ[n]?
  | Γ, .fn a t => (ty (a :: Γ) t).map (.imp a)
  | Γ, .call s t => (ty Γ s).bind fun φ => (ty Γ t).bind fun ψ => callT φ ψ
  | Γ, .pair s t => (ty Γ s).bind fun φ => (ty Γ t).bind fun ψ => some (.and φ ψ)
  | Γ, .fst t => (ty Γ t).bind fstT
  | Γ, .snd t => (ty Γ t).bind sndT
  | Γ, .inl t b => (ty Γ t).bind fun φ => some (.or φ b)
  | Γ, .inr t b => (ty Γ t).bind fun φ => some (.or b φ)
  | Γ, .cas s t u => (ty Γ s).bind fun φ => (orT φ).bind fun p => (ty (p.1 :: Γ) t).bind fun α => (ty (p.2 :: Γ) u).bind fun β => if α = β then some α else none
  | Γ, .abs t b => (ty Γ t).bind fun φ => if φ = .fal then some b else none
/-- a bound of the heights of all types that are met -/
def tb : Nat → Trm → Nat
  | B, .at _ => B
  | B, .fn a t => 1 + max a.ht (tb (max B a.ht) t)
  | B, .call s t => max (tb B s) (tb B t)
  | B, .pair s t => 1 + max (tb B s) (tb B t)
  | B, .fst t => tb B t
  | B, .snd t => tb B t
  | B, .inl t b => 1 + max (tb B t) b.ht
  | B, .inr t b => 1 + max (tb B t) b.ht
  | B, .cas s t u => max (tb B s) (max (tb (max B (tb B s - 1)) t) (tb (max B (tb B s - 1)) u))
  | B, .abs t b => max (tb B t) b.ht
def CxOk (B : Nat) (P : Str → Prop) (Γ : List Fm) : Prop := ∀ a ∈ Γ, a.ht ≤ B ∧ a.Over P
theorem CxOk.cons {B B' : Nat} {P : Str → Prop} {Γ : List Fm} {a : Fm} (h : CxOk B P Γ) (hB : B ≤ B') (ha : a.ht ≤ B') (ho : a.Over P) : CxOk B' P (a :: Γ) := fun x hx => by
  rcases List.mem_cons.mp hx with e | hx
  · rw [e]
    exact ⟨ha, ho⟩
  · exact ⟨Nat.le_trans (h x hx).1 hB, (h x hx).2⟩
/-! lifted -/
def lift (by' : Nat) : Nat → Trm → Trm
  | k, .at n => .at (if k ≤ n then n + by' else n)
  | k, .fn a t => .fn a (lift by' (k + 1) t)
  | k, .call s t => .call (lift by' k s) (lift by' k t)
  | k, .pair s t => .pair (lift by' k s) (lift by' k t)
  | k, .fst t => .fst (lift by' k t)
  | k, .snd t => .snd (lift by' k t)
  | k, .inl t b => .inl (lift by' k t) b
  | k, .inr t b => .inr (lift by' k t) b
  | k, .cas s t u => .cas (lift by' k s) (lift by' (k + 1) t) (lift by' (k + 1) u)
  | k, .abs t b => .abs (lift by' k t) b
end Trm
end Fx
/-! Terms: a value put in; how great the types are that are met. -/
namespace Fx
open PySem PySem.Spec L2
namespace Trm
/-- the greatest type that is written in it -/
def an : Trm → Nat
  | .at _ => 0
  | .fn a t => max a.ht t.an
  | .call s t => max s.an t.an
  | .pair s t => max s.an t.an
  | .fst t => t.an
  | .snd t => t.an
  | .inl t b => max t.an b.ht
  | .inr t b => max t.an b.ht
  | .cas s t u => max s.an (max t.an u.an)
  | .abs t b => max t.an b.ht
def OkT (N : Nat) (Γ : List Fm) (t : Trm) : Prop := ∀ φ, ty Γ t = some φ → φ.ht ≤ N
/-- all types that are met have at most this height -/
def AllT (N : Nat) : List Fm → Trm → Prop
  | Γ, .at n => OkT N Γ (.at n)
  | Γ, .fn a t => OkT N Γ (.fn a t) ∧ AllT N (a :: Γ) t
  | Γ, .call s t => OkT N Γ (.call s t) ∧ AllT N Γ s ∧ AllT N Γ t
  | Γ, .pair s t => OkT N Γ (.pair s t) ∧ AllT N Γ s ∧ AllT N Γ t
  | Γ, .fst t => OkT N Γ (.fst t) ∧ AllT N Γ t
  | Γ, .snd t => OkT N Γ (.snd t) ∧ AllT N Γ t
  | Γ, .inl t b => OkT N Γ (.inl t b) ∧ AllT N Γ t
  | Γ, .inr t b => OkT N Γ (.inr t b) ∧ AllT N Γ t
  | Γ, .cas s t u => OkT N Γ (.cas s t u) ∧ AllT N Γ s ∧ ∀ p, (ty Γ s).bind orT = some p → AllT N (p.1 :: Γ) t ∧ AllT N (p.2 :: Γ) u
  | Γ, .abs t b => OkT N Γ (.abs t b) ∧ AllT N Γ t
theorem AllT.top {N : Nat} {Γ : List Fm} {t : Trm} (h : AllT N Γ t) : OkT N Γ t := by
  cases t with
  | «at» n => exact h
  | _ => exact h.1
/-! a value put in -/
def putAt (v : Trm) : Nat → Trm → Trm
  | d, .at n => if n = d then lift d 0 v else .at (if d < n then n - 1 else n)
  | d, .fn a t => .fn a (putAt v (d + 1) t)
  | d, .call s t => .call (putAt v d s) (putAt v d t)
  | d, .pair s t => .pair (putAt v d s) (putAt v d t)
  | d, .fst t => .fst (putAt v d t)
  | d, .snd t => .snd (putAt v d t)
  | d, .inl t b => .inl (putAt v d t) b
  | d, .inr t b => .inr (putAt v d t) b
  | d, .cas s t u => .cas (putAt v d s) (putAt v (d + 1) t) (putAt v (d + 1) u)
  | d, .abs t b => .abs (putAt v d t) b
/-! compared -/
theorem nb : ∀ t : Trm, t.toD.nb = true
  | .at n => rfl
  | .fn a t => by simp [toD, D.nb, D.nbs, a.nb, nb t]
  | .call s t => by simp [toD, D.nb, D.nbs, nb s, nb t]
  | .pair s t => by simp [toD, D.nb, D.nbs, nb s, nb t]
  | .fst t => by simp [toD, D.nb, D.nbs, nb t]
  | .snd t => by simp [toD, D.nb, D.nbs, nb t]
  | .inl t b => by simp [toD, D.nb, D.nbs, nb t, b.nb]
  | .inr t b => by simp [toD, D.nb, D.nbs, nb t, b.nb]
  | .cas s t u => by simp [toD, D.nb, D.nbs, nb s, nb t, nb u]
  | .abs t b => by simp [toD, D.nb, D.nbs, nb t, b.nb]
theorem lay : ∀ t : Trm, t.Over (fun x => PyData.strOk x = true) → t.toD.lay = true
  | .at n, _ => by simp [toD, D.lay, D.lays]
  | .fn a t, h => by simp [toD, D.lay, D.lays, a.lay h.1, lay t h.2]
  | .call s t, h => by simp [toD, D.lay, D.lays, lay s h.1, lay t h.2]
  | .pair s t, h => by simp [toD, D.lay, D.lays, lay s h.1, lay t h.2]
  | .fst t, h => by simp [toD, D.lay, D.lays, lay t h]
  | .snd t, h => by simp [toD, D.lay, D.lays, lay t h]
  | .inl t b, h => by simp [toD, D.lay, D.lays, lay t h.1, b.lay h.2]
  | .inr t b, h => by simp [toD, D.lay, D.lays, lay t h.1, b.lay h.2]
  | .cas s t u, h => by simp [toD, D.lay, D.lays, lay s h.1, lay t h.2.1, lay u h.2.2]
  | .abs t b, h => by simp [toD, D.lay, D.lays, lay t h.1, b.lay h.2]
theorem dp : ∀ t : Trm, t.toD.dp ≤ t.ht + t.an
  | .at n => by simp [toD, D.dp, D.dps, ht, an]
  | .fn a t => by have := dp t; have := a.dp; simp only [toD, D.dp, D.dps, ht, an]; omega
  | .call s t => by have := dp s; have := dp t; simp only [toD, D.dp, D.dps, ht, an]; omega
  | .pair s t => by have := dp s; have := dp t; simp only [toD, D.dp, D.dps, ht, an]; omega
  | .fst t => by have := dp t; simp only [toD, D.dp, D.dps, ht, an]; omega
  | .snd t => by have := dp t; simp only [toD, D.dp, D.dps, ht, an]; omega
  | .inl t b => by have := dp t; have := b.dp; simp only [toD, D.dp, D.dps, ht, an]; omega
  | .inr t b => by have := dp t; have := b.dp; simp only [toD, D.dp, D.dps, ht, an]; omega
  | .cas s t u => by have := dp s; have := dp t; have := dp u; simp only [toD, D.dp, D.dps, ht, an]; omega
  | .abs t b => by have := dp t; have := b.dp; simp only [toD, D.dp, D.dps, ht, an]; omega
theorem eqo {t : Trm} (h : t.Over (fun x => PyData.strOk x = true)) (h2 : t.ht + t.an ≤ 60) : t.toD.eqo = true := eqo_of (nb t) (lay t h) (by have := dp t; omega)
end Trm
end Fx
/-! zip of a tuple and a list. -/
namespace Fx
open PySem PySem.Spec L2 PyProof.Rows RZ
def StM (z TI TO j k a b : Addr) (n1 n2 : Nat) (i : Nat) (h : Heap) : Prop :=
  IsZip h z TI TO .none ∧ IsTupOf2 h TI (.ref j) (.ref k) ∧ (∃ x y, IsTupOf2 h TO x y) ∧ h.IsTupleIter j a i ∧ h.IsListIter k b i ∧ i ≤ n1 ∧ i ≤ n2
theorem mem5 {z TI TO j k c : Addr} (h : c ∈ [z, TI, TO, j, k]) : c = z ∨ c = TI ∨ c = TO ∨ c = j ∨ c = k := by simpa using h
theorem StM.lt {z TI TO j k a b c : Addr} {n1 n2 i : Nat} {h : Heap} (st : StM z TI TO j k a b n1 n2 i h) (hc : c ∈ [z, TI, TO, j, k]) : c < h.objs.size := by
  obtain ⟨k1, k2, ⟨x, y, k3⟩, ⟨_, k4, _⟩, ⟨_, k5, _⟩, _⟩ := st
  rcases mem5 hc with e | e | e | e | e <;> rw [e]
  · exact Heap.lt_size k1
  · exact Heap.lt_size k2
  · exact Heap.lt_size k3
  · exact Heap.lt_size k4
  · exact Heap.lt_size k5
/-! over trees -/
def gZipM : List D → M (List D)
  | [.tup ds, .lst es] => M.pure (zipD ds es)
  | _ => M.no
def cZipM (fs : Env → M (List D)) : Env → M (List D) := fun env => M.bind (fs env) gZipM
section
variable {X : Cx} {W : WX} {pos p tpos : Pos} {a b : Expr} {elts : List Expr} {kk : Nat} {fs : Env → M (List D)}
end
section
variable {ro w : List D} {env : Env} {fs : Env → M (List D)}
@[simp] theorem x_zipM : cZipM fs env ro w = (fs env ro w).an fun ds w1 => gZipM ds ro w1 := by
  show M.bind (fs env) _ ro w = _
  simp
@[simp] theorem zipM_lst {ds es : List D} : gZipM [.tup ds, .lst es] ro w = .ok (zipD ds es) w := rfl
end
end Fx
/-! enumerate over a list. -/
namespace Fx
open PySem PySem.Spec L2 PyProof.Rows RZ
def enumD (ds : List D) : List D := ds.mapIdx fun (i : Nat) d => .tup [.int (i : Int), d]
def gEnum : List D → M (List D)
  | [.lst es] => M.pure (enumD es)
  | _ => M.no
def cEnum (fs : Env → M (List D)) : Env → M (List D) := fun env => M.bind (fs env) gEnum
section
variable {X : Cx} {W : WX} {pos p tpos : Pos} {a : Expr} {elts : List Expr} {kk : Nat} {fs : Env → M (List D)}
end
section
variable {ro w : List D} {env : Env} {fs : Env → M (List D)}
@[simp] theorem x_enum : cEnum fs env ro w = (fs env ro w).an fun ds w1 => gEnum ds ro w1 := by
  show M.bind (fs env) _ ro w = _
  simp
@[simp] theorem enum_lst {es : List D} : gEnum [.lst es] ro w = .ok (enumD es) w := rfl
end
end Fx
/-! Steps of terms: no program in sight. -/
namespace Fx
open PySem PySem.Spec L2
namespace Trm
/-- the term that a redex at the top becomes -/
def con : Trm → Option Trm
  | .call (.fn _ t) s => some (putAt s 0 t)
  | .fst (.pair s _) => some s
  | .snd (.pair _ t) => some t
  | .cas (.inl s _) t _ => some (putAt s 0 t)
  | .cas (.inr s _) _ u => some (putAt s 0 u)
  | _ => none
structure Good (N : Nat) (P : Str → Prop) (Γ : List Fm) (t t' : Trm) : Prop where
  ty : ty Γ t' = ty Γ t
  al : AllT N Γ t'
  ov : t'.Over P
  ht : t'.ht ≤ 2 * t.ht
  an : t'.an ≤ t.an
end Trm
end Fx
/-! Terms whose calls are all of written functions: reductions end, and they end at one term. No program in sight. -/
namespace Fx
open PySem PySem.Spec L2
namespace Trm
def LF : Trm → Prop
  | .at _ => True
  | .fn _ t => LF t
  | .call (.fn _ b) s => LF b ∧ LF s
  | .call _ _ => False
  | .pair s t => LF s ∧ LF t
  | .fst t => LF t
  | .snd t => LF t
  | .inl t _ => LF t
  | .inr t _ => LF t
  | .cas s t u => LF s ∧ LF t ∧ LF u
  | .abs t _ => LF t
/-! ### environments -/
section
variable {α : Type}
def cn (x : α) (ρ : Nat → α) : Nat → α
  | 0 => x
  | n + 1 => ρ n
def le (j k : Nat) (ρ : Nat → α) : Nat → α := fun n => if k ≤ n then ρ (n + j) else ρ n
theorem le_succ {d : Nat} {x : α} {ρ : Nat → α} : le (d + 1) 0 (cn x ρ) = le d 0 ρ := by
  funext n
  have e : n + (d + 1) = (n + d) + 1 := by omega
  simp only [le, Nat.zero_le, if_true]
  rw [e]
  rfl
end
/-! ### sizes: f says how parts are taken together -/
def I (f : Nat → Nat → Nat) : Trm → (Nat → Nat) → Nat
  | .at n, ρ => ρ n
  | .fn _ b, ρ => 1 + I f b (cn 1 ρ)
  | .call (.fn _ b) s, ρ => 2 + f (I f b (cn (I f s ρ) ρ)) (I f s ρ)
  | .call _ _, _ => 0
  | .pair s t, ρ => 1 + f (I f s ρ) (I f t ρ)
  | .fst t, ρ => 1 + I f t ρ
  | .snd t, ρ => 1 + I f t ρ
  | .inl t _, ρ => 1 + I f t ρ
  | .inr t _, ρ => 1 + I f t ρ
  | .cas s t u, ρ => 1 + f (I f s ρ) (f (I f t (cn (I f s ρ) ρ)) (I f u (cn (I f s ρ) ρ)))
  | .abs t _, ρ => 1 + I f t ρ
/-- f grows with its parts, and is at least each of them -/
structure Gr (f : Nat → Nat → Nat) : Prop where
  mono : ∀ a b c d, a ≤ c → b ≤ d → f a b ≤ f c d
  l : ∀ a b, a ≤ f a b
  r : ∀ a b, b ≤ f a b
/-! ### steps -/
inductive Red : Trm → Trm → Prop where
  | con {t t' : Trm} : con t = some t' → Red t t'
  | fn {a : Fm} {t t' : Trm} : Red t t' → Red (.fn a t) (.fn a t')
  | callf {a : Fm} {b b' s : Trm} : Red b b' → Red (.call (.fn a b) s) (.call (.fn a b') s)
  | callr {s t t' : Trm} : Red t t' → Red (.call s t) (.call s t')
  | pairl {s s' t : Trm} : Red s s' → Red (.pair s t) (.pair s' t)
  | pairr {s t t' : Trm} : Red t t' → Red (.pair s t) (.pair s t')
  | fst {t t' : Trm} : Red t t' → Red (.fst t) (.fst t')
  | snd {t t' : Trm} : Red t t' → Red (.snd t) (.snd t')
  | inl {t t' : Trm} {b : Fm} : Red t t' → Red (.inl t b) (.inl t' b)
  | inr {t t' : Trm} {b : Fm} : Red t t' → Red (.inr t b) (.inr t' b)
  | cass {s s' t u : Trm} : Red s s' → Red (.cas s t u) (.cas s' t u)
  | cast {s t t' u : Trm} : Red t t' → Red (.cas s t u) (.cas s t' u)
  | casu {s t u u' : Trm} : Red u u' → Red (.cas s t u) (.cas s t u')
  | abs {t t' : Trm} {b : Fm} : Red t t' → Red (.abs t b) (.abs t' b)
/-! ### the one normal term -/
def sh (ρ : Nat → Trm) : Nat → Trm := cn (.at 0) fun n => lift 1 0 (ρ n)
/-! ### the two ways to step -/
def ins : Trm → Option Trm
  | .at _ => none
  | .fn a t => (ins t).map (.fn a)
  | .call s t => match ins t with
    | some x => some (.call s x)
    | none => match ins s with
      | some x => some (.call x t)
      | none => con (.call s t)
  | .pair s t => match ins t with
    | some x => some (.pair s x)
    | none => (ins s).map (.pair · t)
  | .fst t => match ins t with
    | some x => some (.fst x)
    | none => con (.fst t)
  | .snd t => match ins t with
    | some x => some (.snd x)
    | none => con (.snd t)
  | .inl t b => (ins t).map (.inl · b)
  | .inr t b => (ins t).map (.inr · b)
  | .cas s t u => match ins u with
    | some x => some (.cas s t x)
    | none => match ins t with
      | some x => some (.cas s x u)
      | none => match ins s with
        | some x => some (.cas x t u)
        | none => con (.cas s t u)
  | .abs t b => (ins t).map (.abs · b)
/-! ### many steps -/
inductive Reds : Trm → Trm → Prop where
  | refl {t : Trm} : Reds t t
  | tail {s t u : Trm} : Reds s t → Red t u → Reds s u
end Trm
end Fx
/-! xs[::-1] of a list. -/
namespace Fx
open PySem PySem.Spec L2 PyProof.Rows RZ
theorem pe_slR {X : Cx} {e : Expr} {st : Option Expr} {te : TE} {ts : TO} {pos p2 : Pos} (he : PE X e te) (hs : PO X st ts) (hsub : ∀ a b : Addr, subscripted (.Slice none none st p2) false (.ref a) (.ref b) = operate [.ref a, .ref b] (getItem (.ref a) (.ref b))) :
    PE X (.Subscript e (.Slice none none st p2) pos) (fun σ H Q => te σ H fun x H1 => ts σ H1 fun o H2 => o = some (-1) ∧ ∃ a xs, x = .ref a ∧ SqL X.K H2 a xs ∧ ∀ p, H2 p = none → Q (.ref p) (upd H2 p (.lst xs.reverse))) := by
  refine ⟨fun pins s σ H Q I h => ?_⟩
  refine Subscript_ (thn (he.run pins s σ H _ I h) fun v s1 ⟨x, H1, I1, r1, q1⟩ => ?_)
  refine wpAny_Slice ?_
  rw [evalPart_none]
  refine wpAny_pure (wpAny_pure ?_)
  refine thn (hs.run pins s1 σ H1 _ I1 q1) fun vk s3 ⟨o, H3, I3, pk, eo, a, xs, ex, hx, q⟩ => ?_
  subst eo ex
  cases (show v = Value.ref a from r1)
  have I4 : Inv X pins σ H3 { s3 with heap := s3.heap.push { cls := .type "slice", data := .fields #[.none, .none, vk] } } := I3.kept (t' := s3.toks) fun b ob q => Heap.get?_push_of_some _ q
  obtain ⟨its, r, ht, hz⟩ := I4.list hx
  have hlen := r.length
  show wpAny (model X.prog X.w) X.A (subscriptTail e (.Slice none none st p2) (.ref a) (.ref s3.heap.objs.size)) (EP X pins σ Q) X.xe { s3 with heap := s3.heap.push { cls := .type "slice", data := .fields #[.none, .none, vk] } }
  refine tail_any (ops := [.ref a, .ref s3.heap.objs.size]) ht.isList.typeIs slot_list_getitem.lookup ?_ (hsub a s3.heap.objs.size)
  refine wpAny_getItem_list_slice ht.isList (Heap.IsSliceOf.new ..) .none .none pk (by decide) ?_ (by rw [List.size_toArray]; omega)
  rw [PySem.W.krv_pick]
  refine ⟨.ref _, _, I4.laid (t' := s3.toks) (o := .lst xs.reverse) (fun b ob q => Heap.get?_push_of_some _ q) (Nat.le_refl _) ?_, rfl, q _ (I4.hok.fresh (Nat.le_refl _))⟩
  exact ⟨by rw [List.length_reverse]; omega, _, 0, r.reverse, Heap.get?_push_size _ rfl⟩
def gSlR (x : D) (o : Option Int) : M D := match x, o with
  | .lst ds, some (-1) => M.pure (.lst ds.reverse)
  | _, _ => M.no
def cSlR (f : EF) (st : Env → M (Option Int)) : EF := fun env => M.bind (f env) fun d => M.bind (st env) fun i => M.bind (M.see d) fun d' => gSlR d' i
section
variable {X : Cx} {W : WX} {a : Expr} {st : Option Expr} {fa : EF} {fs : Env → M (Option Int)} {pos p2 : Pos}
theorem pf_slR (ha : PE X a (tE (cfg X) W fa)) (hs : PO X st (tO (cfg X) W fs)) (hsub : ∀ a b : Addr, subscripted (.Slice none none st p2) false (.ref a) (.ref b) = operate [.ref a, .ref b] (getItem (.ref a) (.ref b)) := by intros; rfl) : PE X (.Subscript a (.Slice none none st p2) pos) (tE (cfg X) W (cSlR fa fs)) := by
  refine pe_imp (pe_slR ha hs hsub) fun σ H Q ⟨ρ, env, ro, w, hS, hE, q⟩ => ?_
  refine tR_seq hS hE q fun d w1 v ρ1 H1 x1 s1 r1 q1 => ?_
  refine tR_seq s1 (hE.ext x1) q1 fun i w2 i' ρ2 H2 x2 s2 ei q2 => ?_
  cases ei
  have sd := seen_of s2 (Rep.ext x2 d r1)
  replace q2 : AfterR (cfg X) (Rep (cfg X)) W σ ρ2 H2 ro (gSlR (see ro w2 d) i ro w2) Q := q2
  generalize see ro w2 d = d3 at sd q2
  unfold gSlR at q2
  split at q2
  · obtain ⟨a, vs, rfl, h, r⟩ := sd.lst
    exact ⟨rfl, a, vs, rfl, h, ok_lst s2 r.reverse q2⟩
  · exact (show False from q2).elim
end
section
variable {ro w : List D} {env : Env} {fa : EF} {fs : Env → M (Option Int)}
@[simp] theorem x_slR : cSlR fa fs env ro w = (fa env ro w).an fun d w1 => (fs env ro w1).an fun i w2 => gSlR (see ro w2 d) i ro w2 := by
  show M.bind (fa env) _ ro w = _
  simp
@[simp] theorem slR_lst {ds : List D} : gSlR (.lst ds) (some (-1)) ro w = .ok (.lst ds.reverse) w := rfl
end
end Fx
/-! How great a drawn term can become. -/
namespace Fx
open PySem PySem.Spec L2
namespace Trm
def cs : Nat → Nat
  | 0 => 2
  | d + 1 => 7 + 5 * cs d + cs d * cs d
def cl : Nat → Nat
  | 0 => 1
  | d + 1 => 2 * cl d + 4
end Trm
end Fx
/-! set(xs): of whole numbers, of pairs. -/
namespace Fx
open PySem PySem.Spec L2 PyProof.Rows
section
variable {P : Program} {w : World} {A : Around} {E : Value → Shared → Prop} {s : Shared}
set_option maxHeartbeats 3200000

end
section
variable {P : Program} {w : World} {A : Around} {E : Value → Shared → Prop} {s : Shared}
end
section
variable {X : Cx}
end
end Fx
/-! sorted(set(xs)). -/
namespace Fx
open PySem PySem.Spec L2 PyProof.Rows
/-! ### ascending, each once -/
section
variable {α : Type} {f : α → Int}
def insK (f : α → Int) (x : α) : List α → List α
  | [] => [x]
  | y :: l => if f x < f y then x :: y :: l else if f x = f y then y :: l else y :: insK f x l
def setK (f : α → Int) (l : List α) : List α := l.foldr (insK f) []
end
/-! ### the rule -/
section
variable {X : Cx} {W : WX}
end
end Fx
/-! Dict comprehensions over an attribute's dict; list(range(n)). -/
namespace Fx
open PySem PySem.Spec L2
/-! ### a hidden object comes forth, and may change -/
/-! ### a dict comprehension -/
section
variable {X : Cx} {C : Cfg} {W : WX} {σ : L2.St} {ρ : Zn} {H : Hp} {ro w : List D}
end
section
variable {X : Cx} {W : WX} {pos p pos' : Pos} {kx vx tg iter : Expr} {ifs : List Expr} {scope : Scope} {own : List (Str × Nat)} {it : Env → M (List D)} {fk fv : EF} {t : Tg} {x c f : Str} {fs : List Str} {σ : L2.St} {H : Hp} {ρ : Zn}
/-! ### the keys of an attribute -/
end
/-! ### list(range(n)) -/
section
variable {X : Cx} {W : WX} {pos p p2 pos2 : Pos} {a : Expr} {fa : EF}
end
section
variable {fa fo : EF} {env : Env} {ro w : List D} {t : Tg} {own : List Nat} {fk fv : EF} {c f : Str} {i : Nat}
end
end Fx
/-! What an own class's __init__ does; a walk over the keys of a dict within a tuple. -/
namespace Fx
open PySem PySem.Spec L2
structure InitOk (P : Program) (w : World) (K : PySem.W.Frag) (mg : Str → Option Value) (base : Heap) (n : Nat) (c : Str) (g : List D → M D) (np : Nat) : Prop where
  ex : ∃ (A f : Addr) (fd : FuncData) (ps : List Str), mg c = some (.ref A) ∧ Mk K A f ∧ Binds K fd ps [] ∧ FnOk P w K mg base (L2.CX P w) n f fd ps (spF ⟨K, mg, w⟩ g (np + 1))
section
variable {X : Cx} {W : WX} {pos p p2 pos' : Pos} {tg iter : Expr} {t : Tg} {x c f : Str} {σ : L2.St} {H : Hp} {ρ : Zn}
theorem atI_some {α : Type} {l : List α} {k : Nat} {v : α} (h : l[k]? = some v) : L2.atI l (k : Int) = some v := by
  have hl := (List.getElem?_eq_some_iff.mp h).1
  unfold L2.atI L2.ixN
  simp [hl]
  exact (List.getElem?_eq_some_iff.mp h).2
end
end Fx
/-! Models: what the program's own functions do. -/
namespace Fx
open PySem PySem.Spec L2
/-! ### plain -/
/-- worlds, what sees what, where each name is true -/
structure Mo where
  n : Nat
  s : Nat → Nat → Bool
  v : List (Str × List Nat)
namespace Mo
def at' (M : Mo) (x : Str) : List Nat := (M.v.lookup x).getD []
def sem (M : Mo) (F : Bool) : Fm → Nat → Bool
  | .fal, _ => false
  | .var x, w => (M.at' x).contains w
  | .and a b, w => M.sem F a w && M.sem F b w
  | .or a b, w => M.sem F a w || M.sem F b w
  | .imp a b, w => if F then (List.range M.n).all fun u => !(M.s w u && (M.sem F a u && !M.sem F b u)) else !(M.sem F a w && !M.sem F b w)
  | .box a, w => (List.range M.n).all fun u => !(M.s w u && !M.sem F a u)
structure Ok (M : Mo) : Prop where
  pos : 0 < M.n
  few : M.n < 25
  names : ∀ p ∈ M.v, PyData.strOk p.1 = true
  nd : (M.v.map (·.1)).Nodup
  asc : ∀ p ∈ M.v, p.2.Pairwise (· < ·) ∧ ∀ w ∈ p.2, w < M.n
  short : M.v.length < 100
end Mo
abbrev nD (i : Nat) : D := .int i
abbrev nsD (l : List Nat) : D := .lst (l.map nD)
def vD (v : List (Str × List Nat)) : D := .dic (v.map fun p => .str p.1) (v.map fun p => nsD p.2)
namespace Mo
def row (M : Mo) (i : Nat) : List Nat := (List.range M.n).filter (M.s i)
def pairs (M : Mo) : List (Nat × Nat) := (List.range M.n).flatMap fun i => (M.row i).map fun j => (i, j)
end Mo
def prD (p : Nat × Nat) : D := .tup [.int p.1, .int p.2]
namespace Mo
def frD (M : Mo) : D := .tup [.int M.n, .tup (M.pairs.map prD)]
def kept (M : Mo) : List (Str × List Nat) := M.v.filter fun p => !p.2.isEmpty
def D' (M : Mo) : D := .ins "Model" ["_frame", "_seen", "_values"] [M.frD, .lst ((List.range M.n).map fun i => nsD (M.row i)), vD M.kept]
end Mo
section
variable {ro w : List D} {env : Env}
end
end Fx
/-! Models: a new one. -/
namespace Fx
open PySem PySem.Spec L2
section
variable {ro w : List D} {env : Env}
theorem see_at {k : Nat} {d : D} (h : w[k]? = some d) : see ro w (.ref (ro.length + k)) = d := by
  rw [see_ref, List.getElem?_append_right (by omega), Nat.add_sub_cancel_left, h]
  rfl
theorem append_at {n : Nat} {d : D} {ds : List D} (h : w[n]? = some (.lst ds)) (hl : ds.length < sizeLine) : gAppend [d] (.ref (ro.length + n)) ro w = .ok .non (w.set n (.lst (ds ++ [d]))) := by
  unfold gAppend
  have := mod_at (ro := ro) (w := w) (n := ro.length + n) (ds := ds) (f := fun es => if es.length < sizeLine then some (.non, es ++ [d]) else none) (d := .non) (ds' := ds ++ [d]) (by omega) (by rw [Nat.add_sub_cancel_left]; exact h) (by simp [hl])
  rw [Nat.add_sub_cancel_left] at this
  exact this
end
/-! ### the values -/
def srt (l : List Nat) : List Nat := setK (fun i : Nat => (i : Int)) l
/-! ### the whole -/
def frD (n : Nat) (l : List (Nat × Nat)) : D := .tup [.int n, .tup (l.map prD)]
structure ValsOk (n : Nat) (v : List (Str × List Nat)) : Prop where
  nd : (v.map (·.1)).Nodup
  rng : ∀ p ∈ v, (∀ i ∈ p.2, i < n) ∧ p.2.length < 64
  few : v.length < 1000
/-! ### told -/
mutual
theorem tell_self {φ : Nat → Option D} : ∀ d : D, D.under 0 d = true → D.tell φ d = some d
  | .ref n, h => by simp [D.under] at h
  | .tup ds, h => by
    unfold D.tell
    rw [tells_self ds (by simpa [D.under] using h)]
    rfl
  | .lst ds, h => by
    unfold D.tell
    rw [tells_self ds (by simpa [D.under] using h)]
    rfl
  | .dic ks ds, h => by
    unfold D.tell
    rw [tells_self ds (by simpa [D.under] using h)]
    rfl
  | .dct ks ds, h => by
    unfold D.tell
    rw [tells_self ds (by simpa [D.under] using h)]
    rfl
  | .ins c ns ds, h => by
    unfold D.tell
    rw [tells_self ds (by simpa [D.under] using h)]
    rfl
  | .non, h => rfl
  | .bl _, h => rfl
  | .int _, h => rfl
  | .str _, h => rfl
  | .fn _, h => rfl
  | .rng _, h => rfl
theorem tells_self {φ : Nat → Option D} : ∀ ds : List D, D.unders 0 ds = true → D.tells φ ds = some ds
  | [], h => rfl
  | d :: ds, h => by
    simp only [D.unders, Bool.and_eq_true] at h
    unfold D.tells
    rw [tell_self d h.1, tells_self ds h.2]
end
theorem unders_iff {n : Nat} : ∀ {ds : List D}, D.unders n ds = true ↔ ∀ d ∈ ds, D.under n d = true
  | [] => by simp [D.unders]
  | d :: ds => by simp [D.unders, unders_iff (ds := ds)]
theorem told_at {b k m : Nat} {w : List D} {d : D} (h : w[m]? = some d) : told b w (k + 1) (b + m) = D.tell (told b w k) d := by
  unfold told
  rw [if_neg (by omega), Nat.add_sub_cancel_left, h]
end Fx
/-! Models: their methods, the worlds at which a formula is true. -/
namespace Fx
open PySem PySem.Spec L2
namespace Mo
variable {A : Mo}
theorem flat_one {α : Type} {X : List α} {i : Nat} : ∀ m, ((List.range m).flatMap fun j => if j = i then X else []) = if i < m then X else []
  | 0 => rfl
  | m + 1 => by
    rw [List.range_succ, List.flatMap_append, flat_one m]
    by_cases e : m = i
    · subst e
      simp
    · by_cases h : i < m
      · have : i < m + 1 := by omega
        simp [h, e, this]
      · have : ¬ i < m + 1 := by omega
        simp [h, e, this]
structure Good (A : Mo) : Prop where
  pos : 0 < A.n
  few : A.n < 25
  nd : (A.v.map (·.1)).Nodup
  asc : ∀ p ∈ A.v, p.2.Pairwise (· < ·) ∧ ∀ w ∈ p.2, w < A.n
  short : A.v.length < 100
  prs : A.pairs.length < 64
def progD (A : Mo) : D := .ins "Model" ["_frame", "_seen", "_values"] [A.frD, .lst ((List.range A.n).map fun i => nsD (A.row i)), vD A.kept]
end Mo
section
variable {ro w : List D} {env : Env}
@[simp] theorem see_insD {c : Str} {ns : List Str} {xs : List D} : see ro w (.ins c ns xs) = .ins c ns xs := rfl
end
end Fx
/-! Models: the worlds at which a formula is true. -/
namespace Fx
open PySem PySem.Spec L2
abbrev SOk (x : Str) : Prop := PyData.strOk x = true
section
variable {ro w : List D} {env : Env} {A : Mo}
end
/-! ### where a name is true -/
end Fx
/-! Models: what the law says of them. -/
namespace Fx
open PySem PySem.Spec L2
def seenD (A : Mo) : D := .lst ((List.range A.n).map fun i => .lst ((List.range A.n).map fun j => .bl (A.s i j)))
section
variable {ro w : List D} {env : Env} {A : Mo}
/-! ### where -/
/-! ### the program's form of it -/
def gridL (n m : Nat) : List (Nat × Nat) := (List.range n).flatMap fun i => (List.range m).map fun j => (i, j)
end
end Fx
/-! Models: how the law draws them. -/
namespace Fx
open PySem PySem.Spec L2
section
variable {ro w : List D} {env : Env}
structure Sq (n : Nat) (bss : List (List Bool)) : Prop where
  len : bss.length = n
  all : ∀ bs ∈ bss, bs.length = n
theorem Sq.at {n : Nat} {bss : List (List Bool)} (h : Sq n bss) {i j : Nat} (hi : i < n) (hj : j < n) : ∃ bs b, bss[i]? = some bs ∧ bs.length = n ∧ bs[j]? = some b := by
  have hl := h.len
  have h1 : bss[i]? = some (bss[i]'(by omega)) := List.getElem?_eq_getElem (by omega)
  have h2 := h.all _ (List.mem_of_getElem? h1)
  exact ⟨_, _, h1, h2, List.getElem?_eq_getElem (by omega)⟩
theorem Sq.put {n : Nat} {bss : List (List Bool)} (h : Sq n bss) {i j : Nat} {bs : List Bool} {b : Bool} (hb : bss[i]? = some bs) : Sq n (bss.set i (bs.set j b)) :=
  ⟨by rw [List.length_set]; exact h.len, fun x hx => by
    rcases List.mem_or_eq_of_mem_set hx with hx | hx
    · exact h.all x hx
    · subst hx
      rw [List.length_set]
      exact h.all _ (List.mem_of_getElem? hb)⟩
end
end Fx
/-! Models: how the law draws them, continued. -/
namespace Fx
open PySem PySem.Spec L2
section
variable {ro w : List D} {env : Env}
/-- the env of _law_model while a row is made -/
def rE (x : Str) (n : Nat) (bi : Int) (b v : Nat) (a : Nat → Option D) (e11 : Option D) : Env := [a 0, some (.str x), a 2, a 3, some (nD n), some (.int bi), a 6, some (.ref b), some (nD v), a 9, a 10, e11, a 12, a 13, a 14, none]
end
section
variable {ro w : List D} {env : Env}
/-! ### the values -/
/-! ### the whole -/
/-- a drawn model: three names -/
structure Drawn (most : Nat) (A : Mo) : Prop where
  good : A.Good
  most : A.n ≤ most
  names : A.v.map (·.1) = (["p", "q", "r"] : List Str)
end
end Fx
/-! Models: any model that the law draws. -/
namespace Fx
open PySem PySem.Spec L2
section
variable {env : Env} {r : List D}
end
end Fx
/-! Models of the intermediate logics: what the law's drawing gives. -/
namespace Fx
open PySem PySem.Spec L2
/-- what the law asks of the name of an intermediate logic -/
structure IntX (x : Str) : Prop where
  ok : SOk x
  c1 : ([.str "K", .str "D", .str "K4", .str "D4", .str "GL"] : List D).any (fun d => d.eqs (.str x)) = false
  c2 : x ≠ "S5"
  c3 : ([.str "D", .str "D4"] : List D).any (fun d => d.eqs (.str x)) = false
  c4 : ([.str "K", .str "D", .str "T"] : List D).any (fun d => d.eqs (.str x)) = false
  c5 : ([.str "Int", .str "KC", .str "LC", .str "BD2", .str "HT", .str "Cl"] : List D).any (fun d => d.eqs (.str x)) = true
def intL : List Str := ["Int", "KC", "LC", "BD2", "HT", "Cl"]
section
variable {ro w : List D} {env : Env}
end
section
variable {ro w : List D} {env : Env}
end
end Fx
/-! Models of the intermediate logics, continued. -/
namespace Fx
open PySem PySem.Spec L2
/-- reflexive, transitive, what is true stays true -/
structure IntM (A : Mo) : Prop where
  refl : ∀ v, v < A.n → A.s v v = true
  trans : ∀ u v w, u < A.n → v < A.n → w < A.n → A.s u v = true → A.s v w = true → A.s u w = true
  pers : ∀ p ∈ A.v, ∀ i ∈ p.2, ∀ j, j < A.n → A.s i j = true → j ∈ p.2
section
variable {ro w : List D} {env : Env}
end
end Fx
/-! What is forced stays; forcing is truth of the translation. -/
namespace Fx
open PySem PySem.Spec L2
namespace Mo
variable {A : Mo}
theorem imp_iff {a b : Fm} {w : Nat} : A.sem true (.imp a b) w = true ↔ ∀ u, u < A.n → A.s w u = true → A.sem true a u = true → A.sem true b u = true := by
  show ((List.range A.n).all fun u => !(A.s w u && (A.sem true a u && !A.sem true b u))) = true ↔ _
  rw [List.all_eq_true]
  constructor
  · intro h u hu hs ha
    have := h u (List.mem_range.mpr hu)
    simpa [hs, ha] using this
  · intro h u hu
    have := h u (List.mem_range.mp hu)
    by_cases c1 : A.s w u = true <;> by_cases c2 : A.sem true a u = true
    · simp [c1, c2, this c1 c2]
    · simp [c2]
    · simp [c1]
    · simp [c1]
/-- a world that sees itself alone -/
theorem alone (φ : Fm) (hp : φ.plain = true) {v : Nat} (hv : v < A.n) (h : ∀ u, u < A.n → (A.s v u = true ↔ u = v)) : A.sem true φ v = A.sem false φ v := by
  induction φ with
  | fal => rfl
  | var x => rfl
  | and a b iha ihb =>
    simp only [Fm.plain, Bool.and_eq_true] at hp
    simp only [Mo.sem, iha hp.1, ihb hp.2]
  | or a b iha ihb =>
    simp only [Fm.plain, Bool.and_eq_true] at hp
    simp only [Mo.sem, iha hp.1, ihb hp.2]
  | imp a b iha ihb =>
    simp only [Fm.plain, Bool.and_eq_true] at hp
    rw [Bool.eq_iff_iff, imp_iff]
    have e : A.sem false (.imp a b) v = !(A.sem false a v && !A.sem false b v) := rfl
    rw [e, ← iha hp.1, ← ihb hp.2]
    constructor
    · intro k
      have := k v hv ((h v hv).mpr rfl)
      cases q : A.sem true a v with
      | false => rfl
      | true => simp [this q]
    · intro k u hu hs ha
      have := (h u hu).mp hs
      subst this
      simp only [ha, Bool.true_and, Bool.not_not] at k
      exact k
  | box a _ => simp [Fm.plain] at hp
end Mo
end Fx
/-! Formulas put for variables; telling. -/
namespace Fx
open PySem PySem.Spec L2
/-! ### telling -/
theorem fm_under {k : Nat} : ∀ φ : Fm, D.under k φ.toD = true
  | .fal => rfl
  | .var x => rfl
  | .imp a b => by simp [Fm.toD, D.under, D.unders, fm_under a, fm_under b]
  | .and a b => by simp [Fm.toD, D.under, D.unders, fm_under a, fm_under b]
  | .or a b => by simp [Fm.toD, D.under, D.unders, fm_under a, fm_under b]
  | .box a => by simp [Fm.toD, D.under, D.unders, fm_under a]
/-! ### a drawn formula, and what is left behind -/
/-! ### formulas for variables -/
abbrev FV := List (Str × Fm)
def sb (v : FV) : Fm → Fm
  | .var x => (v.lookup x).getD (.var x)
  | .fal => .fal
  | .imp a b => .imp (sb v a) (sb v b)
  | .and a b => .and (sb v a) (sb v b)
  | .or a b => .or (sb v a) (sb v b)
  | .box a => .box (sb v a)
/-! ### the model of the instances -/
/-! ### dict == dict -/
end Fx
/-! Three statements told. -/
namespace Fx
open PySem PySem.Spec L2
section
variable {X : Cx} {W : WX} {rest : List Stmt} {t : SF}
end
end Fx
/-! Two models side by side. -/
namespace Fx
open PySem PySem.Spec L2
namespace Mo
variable {A B : Mo}
end Mo
end Fx
/-! Each once; two models side by side: the walk. -/
namespace Fx
open PySem PySem.Spec L2 PyProof.Rows PySem.W
theorem atI_lastG {α : Type} (l : List α) : L2.atI l (-1) = l.getLast? := by
  unfold L2.atI L2.ixN
  rw [if_neg (by decide), List.getLast?_eq_getElem?]
  cases l with
  | nil => rfl
  | cons a l =>
    rw [if_pos (by simp only [List.length_cons]; omega)]
    simp only [Option.bind_some, List.length_cons]
    congr 1
    omega
/-! ### numbers -/
theorem nD_inj (a b : Nat) (h : nD a = nD b) : a = b := by
  have : (a : Int) = b := D.int.inj h
  omega
def natS : Sk Nat := ⟨nD, nD_inj, fun _ => rfl, fun _ _ => rfl, fun _ => rfl, 0, by decide, fun _ => rfl⟩
/-! ### the walk of disjoint -/
section
variable {A B : Mo} {ro w : List D} {env : Env}
end
end Fx
/-! Dicts of worlds that are equal in another order. -/
namespace Fx
open PySem PySem.Spec L2
theorem nd_len {α : Type} [DecidableEq α] : ∀ {l m : List α}, l.Nodup → (∀ a ∈ l, a ∈ m) → l.length ≤ m.length
  | [], m, _, _ => Nat.zero_le _
  | a :: l, m, hn, h => by
    rw [List.nodup_cons] at hn
    have ha := h a (by simp)
    have := nd_len (l := l) (m := m.erase a) hn.2 fun b hb => (List.mem_erase_of_ne (fun e : b = a => hn.1 (e ▸ hb))).mpr (h b (List.mem_cons_of_mem _ hb))
    rw [List.length_erase_of_mem ha] at this
    have : 0 < m.length := List.length_pos_of_mem ha
    simp only [List.length_cons]
    omega
end Fx
/-! Dict comprehensions over anything; over the keys of a dict. -/
namespace Fx
open PySem PySem.Spec L2
section
variable {X : Cx} {W : WX} {pos p pos' : Pos} {kx vx tg iter : Expr} {scope : Scope} {own : List (Str × Nat)} {it : Env → M (List D)} {fk fv : EF} {t : Tg} {x : Str} {σ : L2.St} {H : Hp} {ρ : Zn}
end
section
variable {ro w : List D} {env : Env} {t : Tg} {own : List Nat} {it : Env → M (List D)} {fk fv : EF} {ds : List D} {w1 w2 : List D} {r : List (D × D)}
end
end Fx
/-! The part of a model that can be reached: plain. -/
namespace Fx
open PySem PySem.Spec L2 PyProof.Rows PySem.W
/-! ### pairs, sorted -/
namespace Mo
variable {A : Mo} {v : Nat} {S T R : List Nat}
theorem mem_row {u j : Nat} : j ∈ A.row u ↔ j < A.n ∧ A.s u j = true := by
  unfold row
  rw [List.mem_filter, List.mem_range]
def Cl (A : Mo) (S : List Nat) : Prop := ∀ i ∈ S, ∀ j ∈ A.row i, j ∈ S
/-- the least closed set with v -/
structure Gen (A : Mo) (v : Nat) (S : List Nat) : Prop where
  base : v ∈ S
  lt : ∀ i ∈ S, i < A.n
  cl : A.Cl S
  least : ∀ T : List Nat, v ∈ T → A.Cl T → ∀ i ∈ S, i ∈ T
theorem Gen.same (h1 : Gen A v S) (h2 : Gen A v T) : ∀ i, i ∈ S ↔ i ∈ T := fun i => ⟨h1.least T h2.base h2.cl i, h2.least S h1.base h1.cl i⟩
/-- one round of the law -/
def stepL (A : Mo) (R : List Nat) : List Nat := dd (natS.sort (R ++ R.flatMap A.row))
def rounds (A : Mo) (v : Nat) : Nat → List Nat
  | 0 => [v]
  | k + 1 => stepL A (rounds A v k)
/-- the part on some worlds -/
def sub (A : Mo) (L : List Nat) : Mo where
  n := L.length
  s i j := A.s (L.getD i 0) (L.getD j 0)
  v := A.kept.map fun p => (p.1, (List.range L.length).filter fun k => p.2.contains (L.getD k 0))
variable {L : List Nat}
theorem getD_mem {k : Nat} (h : k < L.length) : L.getD k 0 ∈ L := by
  rw [List.getD_eq_getElem?_getD, List.getElem?_eq_getElem h]
  exact List.getElem_mem h
/-- the number of a world -/
def num (L : List Nat) (i : Nat) : Nat := L.idxOf i
end Mo
end Fx
/-! name = {..} on one line, the name a local. -/
namespace Fx
open PySem PySem.Spec L2 PyProof.Rows PySem.W
section
variable {X : Cx}
variable {W : WX} {pos p pos' : Pos} {kx vx tg iter : Expr} {scope : Scope} {own : List (Str × Nat)} {it : Env → M (List D)} {fk fv : EF} {t : Tg} {x : Str} {σ : L2.St} {H : Hp} {ρ : Zn}
end
/-! ### x += n -/
def gAddI (x y : D) : M D := match x, y with
  | .int i, .int j => M.pure (.int (i + j))
  | _, _ => M.no
theorem ok2_addI {C : Cfg} : Ok2 C (rI0 fun i j => .int (i + j)) gAddI := ok2_I0 (k := fun i j => .int (i + j)) (fun d e => by cases d <;> cases e <;> first | exact .inr rfl | exact .inl ⟨_, _, rfl, rfl, rfl⟩) fun _ _ _ _ => rfl
theorem x_augI {env : Env} {ro w w1 : List D} {i : Nat} {x y : Int} {f : EF} (h : env[i]? = some (some (.int x))) (hf : f env ro w = .ok (.int y) w1) : sAug i gAddI f env ro w = .go .nx (env.set i (some (.int (x + y)))) w1 := by
  unfold sAug sLift
  rw [x_var, h]
  simp only [ofO_ss, hf]
  rfl
end Fx
/-! The part of a model that can be reached: the walk. -/
namespace Fx
open PySem PySem.Spec L2
section
variable {A : Mo} {L : List Nat} {ro w : List D} {env : Env}
end
/-! ### reached -/
def addS (R : List Nat) (w : Nat) : List Nat := if w ∈ R then R else R ++ [w]
def addL (R ws : List Nat) : List Nat := ws.foldl addS R
theorem addL_spec : ∀ (ws R : List Nat), R.Nodup → (addL R ws).Nodup ∧ (∀ i, i ∈ addL R ws ↔ i ∈ R ∨ i ∈ ws) ∧ R <+: addL R ws
  | [], R, h => ⟨h, by simp [addL], List.prefix_refl _⟩
  | w :: ws, R, h => by
    show (addL (addS R w) ws).Nodup ∧ (∀ i, i ∈ addL (addS R w) ws ↔ _) ∧ R <+: addL (addS R w) ws
    unfold addS
    by_cases c : w ∈ R
    · rw [if_pos c]
      obtain ⟨h1, h2, h3⟩ := addL_spec ws R h
      refine ⟨h1, fun i => ?_, h3⟩
      rw [h2, List.mem_cons]
      constructor
      · rintro (z | z)
        · exact .inl z
        · exact .inr (.inr z)
      · rintro (z | z | z)
        · exact .inl z
        · exact .inl (z ▸ c)
        · exact .inr z
    · rw [if_neg c]
      obtain ⟨h1, h2, h3⟩ := addL_spec ws (R ++ [w]) (by
        rw [List.nodup_append]
        refine ⟨h, by simp, fun a ha b hb e => c ?_⟩
        rw [List.mem_singleton] at hb
        rw [← hb, ← e]
        exact ha)
      refine ⟨h1, fun i => ?_, (List.prefix_append R [w]).trans h3⟩
      rw [h2, List.mem_append, List.mem_singleton, List.mem_cons, or_assoc]
section
variable {A : Mo} {ro : List D}
def sG : SF := sIf (cTest (cBin gNotIn (cVar 4) (cVar 2))) (sExpr (cMl gAppend (cVar 2) (cArgs [cVar 4]))) (sNil)
/-- what holds at each turn -/
structure Bfs (A : Mo) (v : Nat) (R : List Nat) (k : Nat) : Prop where
  nd : R.Nodup
  hd : ∃ t, R = v :: t
  lt : ∀ i ∈ R, i < A.n
  kl : k ≤ R.length
  done : ∀ i, i < k → ∀ j ∈ A.row (R.getD i 0), j ∈ R
  least : ∀ T : List Nat, v ∈ T → A.Cl T → ∀ i ∈ R, i ∈ T
theorem Bfs.len {v k : Nat} {R : List Nat} (h : Bfs A v R k) : R.length ≤ A.n := by
  have := nd_len (m := List.range A.n) h.nd fun a ha => List.mem_range.mpr (h.lt a ha)
  rwa [List.length_range] at this
theorem Bfs.step {v k : Nat} {R : List Nat} (h : Bfs A v R k) (hk : k < R.length) : Bfs A v (addL R (A.row (R.getD k 0))) (k + 1) := by
  obtain ⟨h1, h2, t2, h3⟩ := addL_spec (A.row (R.getD k 0)) R h.nd
  have gd : ∀ i, i < R.length → (addL R (A.row (R.getD k 0))).getD i 0 = R.getD i 0 := fun i hi => by
    rw [← h3, List.getD_eq_getElem?_getD, List.getD_eq_getElem?_getD, List.getElem?_append_left hi]
  refine ⟨h1, ?_, fun i hi => ?_, ?_, fun i hi j hj => ?_, fun T hT cT i hi => ?_⟩
  · obtain ⟨t, e⟩ := h.hd
    exact ⟨t ++ t2, by rw [← h3, e]; rfl⟩
  · rcases (h2 i).mp hi with hi | hi
    · exact h.lt i hi
    · exact (Mo.mem_row.mp hi).1
  · rw [← h3, List.length_append]
    omega
  · rw [gd i (by omega)] at hj
    by_cases c : i = k
    · subst c
      exact (h2 j).mpr (.inr hj)
    · exact (h2 j).mpr (.inl (h.done i (by omega) j hj))
  · rcases (h2 i).mp hi with hi | hi
    · exact h.least T hT cT i hi
    · exact cT _ (h.least T hT cT _ (Mo.getD_mem hk)) i hi
end
end Fx
/-! Powers. -/
namespace Fx
open PySem PySem.Spec L2
end Fx
/-! Models of GL: what the law's drawing gives (written by mkFzP.py from FzA, FzC). -/
namespace Fx
open PySem PySem.Spec L2
structure GX (x : Str) : Prop where
  ok : SOk x
  c1 : ([.str "K", .str "D", .str "K4", .str "D4", .str "GL"] : List D).any (fun d => d.eqs (.str x)) = true
  c2 : x ≠ "S5"
  c3 : ([.str "D", .str "D4"] : List D).any (fun d => d.eqs (.str x)) = false
  c4 : ([.str "K", .str "D", .str "T"] : List D).any (fun d => d.eqs (.str x)) = false
  r2 : ([.str "GL", .str "Grz", .str "Int", .str "KC", .str "LC", .str "BD2", .str "HT", .str "Cl"] : List D).any (fun d => d.eqs (.str x)) = true
  r3 : ([.str "LC", .str "HT"] : List D).any (fun d => d.eqs (.str x)) = false
  r4 : ([.str "KC"] : List D).any (fun d => d.eqs (.str x)) = false
  r5 : ([.str "BD2"] : List D).any (fun d => d.eqs (.str x)) = false
  r6 : x ≠ "Cl"
  r7 : x ≠ "HT"
section
variable {ro w : List D} {env : Env}
/-- goes up, transitive -/
structure GLM (A : Mo) : Prop where
  up : ∀ v w, v < A.n → w < A.n → A.s v w = true → v < w
  trans : ∀ u v w, u < A.n → v < A.n → w < A.n → A.s u v = true → A.s v w = true → A.s u w = true
end
end Fx
/-! Truth at ranks: plain. -/
namespace Fx
open PySem PySem.Spec L2
def tv : Fm → Nat → Bool
  | .fal, _ => false
  | .var _, _ => false
  | .and a b, r => tv a r && tv b r
  | .or a b, r => tv a r || tv b r
  | .imp a b, r => !(tv a r && !tv b r)
  | .box a, r => (List.range r).all fun k => tv a k
/-! ### ranks -/
def mxN (l : List Nat) : Nat := l.foldl max 0
namespace Mo
variable {A : Mo}
def rkI (A : Mo) : Nat → Nat → Nat
  | 0, _ => 0
  | k + 1, v => mxN ((A.row v).map fun w => rkI A k w + 1)
def rk (A : Mo) (v : Nat) : Nat := rkI A A.n v
end Mo
end Fx
/-! Dicts with nested keys compared. -/
namespace Fx
open PySem PySem.Spec L2 PyProof.Rows PySem.W
section
variable {prog : Program} {w : World} {K : Type} [DecidableEq K] {knd : HeapKind prog w K} {A : Around} {E : Value → Shared → Prop} {s : Shared}
end
section
variable {X : Cx}
end
section
variable {X : Cx}
end
end Fx
/-! Small things that many laws use. -/
namespace Fx
open PySem PySem.Spec L2
/-- a formula, or nothing -/
def OFm (o : Option D) : Prop := ∀ d, o = some d → ∃ φ : Fm, d = φ.toD
theorem OFm.none : OFm none := fun d h => by cases h
theorem OFm.some {φ : Fm} : OFm (some φ.toD) := fun d h => ⟨φ, by cases h; rfl⟩
end Fx
/-! Comprehensions with two fors. -/
namespace Fx
open PySem PySem.Spec L2
section
variable {X : Cx} {C : Cfg} {W : WX} {σ : L2.St} {ρ : Zn} {H : Hp} {ro w : List D}
end
section
variable {X : Cx} {W : WX} {pos p pos' : Pos} {elt tg iter tg1 iter1 : Expr} {ifs ifs1 : List Expr} {scope : Scope} {own : List (Str × Nat)} {vs1 : List Nat} {it it1 : Env → M (List D)} {tt tt1 : Env → M Bool} {f : EF} {t t1 : Tg}
end
section
variable {t t1 : Tg} {own vs1 : List Nat} {it it1 : Env → M (List D)} {tt tt1 : Env → M Bool} {f : EF} {k : List D → M D} {env : Env} {ro w : List D}
end
end Fx
/-! More methods of lists; `in` a tuple of tuples; {} in a list of dicts. -/
namespace Fx
open PySem PySem.Spec L2 PyProof.Rows
/-! ### list * number, which may change -/
section
variable {C : Cfg} {W : WX}
/-! ### insert, extend, index -/
end
section
variable {X : Cx} {W : WX} {o e : Expr} {es : List Expr} {apos pos : Pos} {fo : EF} {fs : Env → M (List D)}
/-- xs.pop() -/
def cMl0 (g : List D → D → M D) (fo : EF) : EF := fun env => M.bind (fo env) fun o => M.bind (M.see o) fun o' => match o' with
  | .lst _ => g [] o
  | _ => M.no
theorem tE_ml0 {r : V → List V → Hp → VK → Prop} {g : List D → D → M D} (hr : OkM (cfg X) r g) {σ : L2.St} {H : Hp} {Q : VK} (q : tE (cfg X) W (cMl0 g fo) σ H Q) :
    tBM0 X.K "list" r (tE (cfg X) W fo) σ H Q := by
  obtain ⟨ρ, env, ro, w, hS, hE, q⟩ := q
  refine tR_seq hS hE q fun d w1 v ρ1 H1 x1 s1 r1 q1 => ?_
  replace q1 : AfterR (cfg X) (Rep (cfg X)) W σ ρ1 H1 ro ((match see ro w1 d with
    | .lst _ => g [] d
    | _ => M.no) ro w1) Q := q1
  have sd := seen_of s1 r1
  generalize see ro w1 d = d3 at sd q1
  cases d3 with
  | lst ds =>
    obtain ⟨a, vs, rfl, h, r⟩ := sd.lst
    exact ⟨.inl ⟨rfl, vs, h⟩, hr W σ ρ1 H1 ro w1 d _ [] [] Q s1 r1 rfl q1⟩
  | _ => exact (show False from q1).elim
theorem pf_pop (ho : PE X o (tE (cfg X) W fo)) (hbase : attributeBase o "pop" X.env (eval o X.env) = eval o X.env := by rfl) (hline : (apos.endLine == pos.line) = true := by rfl) :
    PE X (.Call (.Attribute o "pop" apos) [] [] pos) (tE (cfg X) W (cMl0 gPop fo)) :=
  pe_imp (pe_bm0 PySem.F.plainAttrs_list PySem.F.slot_list_pop PySem.F.type_list_pop mt_pop ho hbase hline) fun _ _ _ q => tE_ml0 okm_pop q
end
/-! ### in a tuple of any data -/
section
variable {X : Cx}
end
/-! ### {} in a list of dicts -/
section
variable {A : Around} {s : Shared}
end
section
variable {X : Cx}
end
end Fx
/-! Frames closed by masks. -/
namespace Fx
open PySem PySem.Spec L2
/-! ### plain -/
def wstep (u : Nat) (R : Nat → Nat → Bool) (v w : Nat) : Bool := R v w || (R v u && R u w)
def Same2 (n : Nat) (R S : Nat → Nat → Bool) : Prop := ∀ v w, v < n → w < n → R v w = S v w
theorem Same2.step {n u : Nat} {R S : Nat → Nat → Bool} (hu : u < n) (h : Same2 n R S) : Same2 n (wstep u R) (wstep u S) := fun v w hv hw => by
  unfold wstep
  rw [h v w hv hw, h v u hv hu, h u w hu hw]
/-! ### masks -/
section
variable {ro w : List D} {env : Env}
end
section
variable {ro : List D} {fr pr : D} {r t : Bool} {n : Nat}
end
end Fx
/-! is_frame of whatever is passed. -/
namespace Fx
open PySem PySem.Spec L2
def two (p : Int × Int) : List Int := [p.1, p.2]
end Fx
/-! Walks over a dict within a list: for t in x[y], [.. for t in x[y]]. -/
namespace Fx
open PySem PySem.Spec L2
section
variable {X : Cx} {W : WX} {pos p p2 pos' : Pos} {elt tg iter : Expr} {ifs : List Expr} {scope : Scope} {own : List (Str × Nat)} {tt : Env → M Bool} {f : EF} {t : Tg} {x y c : Str} {σ : L2.St} {H : Hp} {ρ : Zn}
end
section
variable {t : Tg} {own : List Nat} {i j : Nat} {tt : Env → M Bool} {f : EF} {k : List D → M D} {env : Env} {ro w : List D} {ks xs ds : List D} {n : Int} {body : SF}
end
end Fx
/-! The frames of the logics: what the program asks. -/
namespace Fx
open PySem PySem.Spec L2
/-! ### conditions -/
section
variable (n : Nat) (R : Nat → Nat → Bool)
end
/-! ### the dicts of what is seen -/
section
variable {n : Nat} {R : Nat → Nat → Bool} {ro w : List D} {env : Env}
end
end Fx
/-! The frames of the logics: seen_by, require_logic, is_frame_of. -/
namespace Fx
open PySem PySem.Spec L2
section
variable {n : Nat} {R : Nat → Nat → Bool} {ro w : List D} {env : Env}
def dk (l : List Nat) : D := .dic (l.map nD) (l.map fun _ => .bl true)
end
/-! ### require_logic -/
def memB (l : List Str) (x : Str) : Bool := l.any fun y => y == x
section
variable {n : Nat} {R : Nat → Nat → Bool} {ro w : List D} {env : Env}
/-! ### is_frame_of -/
end
end Fx
/-! The frames of the logics: what the law asks. -/
namespace Fx
open PySem PySem.Spec L2
/-! ### plain -/
def trD (t : Nat × Nat × Nat) : D := .tup [nD t.1, nD t.2.1, nD t.2.2]
section
variable (n : Nat) (R : Nat → Nat → Bool)
def chV (u v : Nat) : List (Nat × Nat × Nat) := if R u v = true then ((List.range n).filter (R v)).map fun w => (u, v, w) else []
def chL : List (Nat × Nat × Nat) := (List.range n).flatMap fun u => (List.range n).flatMap (chV n R u)
def edL : List (Nat × Nat) := (gridL n n).filter fun p => R p.1 p.2
end
section
variable {n : Nat} {R : Nat → Nat → Bool}
end
/-! ### chains, forks -/
section
variable {ro w : List D} {env : Env} {A : Mo}
end
end Fx
/-! The frames of the logics: both answers are one. -/
namespace Fx
open PySem PySem.Spec L2
section
variable {n : Nat} {R : Nat → Nat → Bool}
end
/-! ### three different worlds -/
/-! ### the law's own -/
section
variable {ro w : List D} {env : Env} {A : Mo}
end
end Fx
/-! The frames of the logics: the law's own answer. -/
namespace Fx
open PySem PySem.Spec L2
section
variable {ro w : List D} {env : Env} {A : Mo}
def oE (x : Str) (A : Mo) (ow : Nat) (e6 e7 e8 e9 e10 e11 : Option D) : Env := [some (.str x), some (seenD A), some (nsD (List.range A.n)), some (.int ow), some (.lst ((chL A.n A.s).map trD)), some (.lst ((edL A.n A.s).map prD)), e6, e7, e8, e9, e10, e11]
end
end Fx
/-! try, several except clauses without a name. -/
namespace Fx
open PySem PySem.Spec L2
def sHds : List ((Str → Option Bool) × SF) → Str → SF
  | [], c => fun env _ w => .exn c [] [] env w
  | (sub, s) :: r, c => match sub c with
    | some true => fun env ro w => (match s env ro w with
      | .go fl env2 w2 => .go fl env2 w2
      | _ => .no)
    | some false => sHds r c
    | none => fun _ _ _ => .no
def sTryM (hds : List ((Str → Option Bool) × SF)) (body : SF) : SF := fun env ro w => match body env ro w with
  | .exn c [] [] env1 w1 => sHds hds c env1 ro w1
  | .exn _ _ _ _ _ => .no
  | o => o
section
variable {X : Cx} {W : WX} {x : Str} {body suite : List Stmt} {b₀ : Stmt} {np pos pos' : Pos} {fb fs : SF} {hds : List ExceptHandler} {h₀ : ExceptHandler} {L : List ((Str → Option Bool) × SF)} {cs us : List Str} {sub : Str → Str → Bool}
def HdF (X : Cx) (hds : List ExceptHandler) (L : List ((Str → Option Bool) × SF)) : Prop := ∃ l, HdsOk X hds l ∧ ∀ (W : WX) (E : Ends) (c' : Str) (cls : Value) (dx : Option Addr) (σ1 : L2.St) (ρ ρ1 : Zn) (H H1 : Hp) (ro w1 : List D) (env1 : Fx.Env) (A : Addr),
  X.mg c' = some (.ref A) → cls = .ref A → RepX (cfg X) ρ1 H1 c' [] [] cls dx → Ext ρ ρ1 H H1 → RepS (cfg X) ρ1 H1 (ro ++ w1) → RepE (cfg X) ρ1 H1 env1 σ1 → AfterS (cfg X) W ρ H ro (sHds L c' env1 ro w1) E → wMany X.K W E l cls dx σ1 H1
theorem hdf_nil : HdF X [] [] := ⟨[], .nil, fun W D c' cls dx σ1 ρ ρ1 H H1 ro w1 env1 A h1 h2 hX x1 s1 e1 q => q cls dx σ1 ρ1 H1 x1 s1 e1 hX⟩
theorem hdf_cons (T : ExT X.K X.mg cs us sub) (hx : x ∈ us) (hg : Gl X x) (hdb : (x == ("__debug__" : Str)) = false)
    (hsu : ∀ (a : Addr) (oe : Obj) (cls : Value) (d : Option Addr) (pn : List (Addr × Obj)), Zc cls d oe → (∃ vs, oe.data = .fields vs) → PSs (X.suite a ((a, oe) :: pn)) (b₀ :: suite) (tS (cfg X) W0 fs)) (r : HdF X hds L) :
    HdF X (.ExceptHandler (some (.Name x np)) none (b₀ :: suite) pos' :: hds) ((subO cs sub x, fs) :: L) := by
  obtain ⟨l, k, g⟩ := r
  obtain ⟨B, hB⟩ := T.na x hx
  refine ⟨(.ref B, fun _ _ _ => tS (cfg X) W0 fs) :: l, .cons ⟨hg, hdb, .inl hB⟩ hsu k, fun W D c' cls dx σ1 ρ ρ1 H H1 ro w1 env1 A h1 h2 hX x1 s1 e1 q => ?_⟩
  unfold sHds at q
  cases e2 : subO cs sub x c' with
  | none => rw [e2] at q; exact (show False from q).elim
  | some b =>
    rw [e2] at q
    have hx := T.sub' hx hB c' b e2 A h1
    rw [← h2] at hx
    refine ⟨b, hx, fun hb' a na => ?_, fun hb' => ?_⟩
    · subst hb'
      simp only at q
      refine ⟨ρ1, env1, ro, w1, s1, e1, ?_⟩
      cases e3 : fs env1 ro w1 with
      | no => rw [e3] at q; exact (show False from q).elim
      | exn _ _ _ _ _ => rw [e3] at q; exact (show False from q).elim
      | go fl env2 w2 =>
        rw [e3] at q
        have q' := AfterS.ext x1 q
        cases fl with
        | nx => exact q'
        | bk => exact q'
        | ct => exact q'
        | rt d => exact q'
    · subst hb'
      simp only at q
      exact g W D c' cls dx σ1 ρ ρ1 H H1 ro w1 env1 A h1 h2 hX x1 s1 e1 q
theorem f_tryM (hh : HdF X (h₀ :: hds) L) (hs : X.stack = X.env :: X.outer) (hf : X.env.frame = some X.env.locals) (tk : Takes X W)
    (hb : ∀ (W : WX) (pn : List (Addr × Obj)) (xe : Value → Shared → Prop), Takes (X.tr pn xe) W → PassesOwn (model X.prog X.w) X.A X.env xe → PSs (X.tr pn xe) body (tS (cfg X) W fb)) :
    PS X (.Try body (h₀ :: hds) [] [] pos) (tS (cfg X) W (sTryM L fb)) := by
  obtain ⟨l, k, g⟩ := hh
  refine ps_imp (ps_try_many (tb := fun W => tS (cfg X) W fb) (Wout := W) hs hf tk hb k) fun D σ H ⟨ρ, env, ro, w, hS, hE, q⟩ => ?_
  refine ⟨ρ, env, ro, w, hS, hE, ?_⟩
  unfold sTryM at q
  cases e : fb env ro w with
  | no => rw [e] at q; exact q
  | go fl env1 w1 =>
    rw [e] at q
    cases fl with
    | nx => exact q
    | rt d => exact q
    | bk => exact q
    | ct => exact q
  | exn c' ns xs env1 w1 =>
    rw [e] at q
    cases ns with
    | cons _ _ => exact (show False from q).elim
    | nil =>
      cases xs with
      | cons _ _ => exact (show False from q).elim
      | nil =>
        intro cls dx σ1 ρ1 H1 x1 s1 e1 hX
        have hX' := hX
        obtain ⟨A, h1, h2, h3⟩ := hX
        exact g W D c' cls dx σ1 ρ ρ1 H H1 ro w1 env1 A h1 h2 hX' x1 s1 e1 q
end
end Fx
/-! Models of logics. -/
namespace Fx
open PySem PySem.Spec L2
/-- values that grow along the frame -/
def growsV (A : Mo) (v : List (Str × List Nat)) : Bool := v.all fun p => p.2.all fun i => (List.range A.n).all fun u => !A.s i u || p.2.contains u
def grows (A : Mo) : Bool := growsV A A.v
section
variable {ro w : List D} {env : Env} {A : Mo}
/-! ### is_model_of -/
/-! ### holds -/
end
end Fx
/-! The frames that the law draws: of each logic. -/
namespace Fx
open PySem PySem.Spec L2
section
variable {n : Nat} {R S : Nat → Nat → Bool}
/-! ### what a logic asks -/
structure LFr (x : Str) (n : Nat) (R : Nat → Nat → Bool) : Prop where
  tr : memB ["K", "D", "T"] x = false → ∀ u v w, u < n → v < n → w < n → R u v = true → R v w = true → R u w = true
  se : memB ["D", "D4"] x = true → ∀ v, v < n → ∃ w, w < n ∧ R v w = true
  ir : x = "GL" → ∀ v, v < n → R v v = false
  rf : memB ["K", "D", "K4", "D4", "GL"] x = false → ∀ v, v < n → R v v = true
  an : memB ["K", "D", "T", "K4", "D4", "S4", "S5", "GL"] x = false → ∀ v w, v < n → w < n → v ≠ w → R v w = true → R w v = false
  sy : x = "S5" → ∀ v w, v < n → w < n → R v w = true → R w v = true
  co : memB ["LC", "HT"] x = true → ∀ u v w, u < n → v < n → w < n → R u v = true → R u w = true → R v w = true ∨ R w v = true
  di : x = "KC" → ∀ u v w, u < n → v < n → w < n → R u v = true → R u w = true → ∃ z, z < n ∧ R v z = true ∧ R w z = true
  cl : x = "Cl" → ∀ v w, v < n → w < n → R v w = true → v = w
  sh : memB ["BD2", "HT"] x = true → ∀ u v w, u < n → v < n → w < n → v ≠ u → R u v = true → R v w = true → w = u ∨ w = v
end
end Fx
/-! What the law draws is of its logic: the frames. -/
namespace Fx
open PySem PySem.Spec L2
section
variable {n : Nat} {R S : Nat → Nat → Bool} {Q : Nat → Nat → Prop}
variable {B : Nat → Nat → Bool}
end
end Fx
/-! What the law draws is of its logic: the closing. -/
namespace Fx
open PySem PySem.Spec L2
section
variable {ro w : List D} {env : Env}
end
end Fx
/-! What the law draws is of its logic: the rows, the model (its walk written by mkGaI.py from FzD). -/
namespace Fx
open PySem PySem.Spec L2
section
variable {ro w : List D} {env : Env}
/-! ### the values -/
/-- of the logic -/
structure OfL (x : Str) (A : Mo) : Prop where
  fr : LFr x A.n A.s
  int : memB intL x = true → IntM A
theorem LFr.same {x : Str} {n : Nat} {R S : Nat → Nat → Bool} (h : Same2 n S R) (a : LFr x n R) : LFr x n S where
  tr := fun c u v w hu hv hw h1 h2 => by
    rw [h u v hu hv] at h1
    rw [h v w hv hw] at h2
    rw [h u w hu hw]
    exact a.tr c u v w hu hv hw h1 h2
  se := fun c v hv => by
    obtain ⟨w, hw, g⟩ := a.se c v hv
    exact ⟨w, hw, by rw [h v w hv hw]; exact g⟩
  ir := fun c v hv => by rw [h v v hv hv]; exact a.ir c v hv
  rf := fun c v hv => by rw [h v v hv hv]; exact a.rf c v hv
  an := fun c v w hv hw ne h1 => by
    rw [h v w hv hw] at h1
    rw [h w v hw hv]
    exact a.an c v w hv hw ne h1
  sy := fun c v w hv hw h1 => by
    rw [h v w hv hw] at h1
    rw [h w v hw hv]
    exact a.sy c v w hv hw h1
  co := fun c u v w hu hv hw h1 h2 => by
    rw [h u v hu hv] at h1
    rw [h u w hu hw] at h2
    rw [h v w hv hw, h w v hw hv]
    exact a.co c u v w hu hv hw h1 h2
  di := fun c u v w hu hv hw h1 h2 => by
    rw [h u v hu hv] at h1
    rw [h u w hu hw] at h2
    obtain ⟨z, hz, g1, g2⟩ := a.di c u v w hu hv hw h1 h2
    exact ⟨z, hz, by rw [h v z hv hz]; exact g1, by rw [h w z hw hz]; exact g2⟩
  cl := fun c v w hv hw h1 => by
    rw [h v w hv hw] at h1
    exact a.cl c v w hv hw h1
  sh := fun c u v w hu hv hw ne h1 h2 => by
    rw [h u v hu hv] at h1
    rw [h v w hv hw] at h2
    exact a.sh c u v w hu hv hw ne h1 h2
end
end Fx
/-! Parts and sums of models stay of their logics. -/
namespace Fx
open PySem PySem.Spec L2
section
variable {A B : Mo} {L : List Nat} {x : Str}
/-! ### values that grow -/
end
end Fx
/-! Scripts of numbers: the pool, formulas, models (written by mkGaK.py from FxN, K53e, FzA, FzD, GaI). -/
namespace Fx
open PySem PySem.Spec L2
namespace Lw
end Lw
section
variable {ro w : List D} {env : Env}
end
end Fx
/-! list(d), d a dict that stands still. -/
namespace Fx
open PySem PySem.Spec L2
def gListD : D → M D
  | .dic ks _ => fun _ w => .ok (.lst ks) w
  | _ => M.no
@[simp] theorem listD_dic {ks xs : List D} {ro w : List D} : gListD (.dic ks xs) ro w = .ok (.lst ks) w := rfl
end Fx
/-! Rounds: plain. -/
namespace Fx
open PySem PySem.Spec L2
abbrev RL := List ((Nat × Nat) × Nat)
def dR (L : RL) : D := .dct (L.map fun e => prD e.1) (L.map fun e => nD e.2)
def kF (L : RL) (p : Nat × Nat) : Bool := L.any fun e => decide (e.1 = p)
def T0 (A B : Mo) (p : Nat × Nat) : Bool := (A.v.map (·.1) ++ B.v.map (·.1)).any fun x => !decide ((A.at' x).contains p.1 = (B.at' x).contains p.2)
def lonL (A B : Mo) (F : Nat × Nat → Bool) (p : Nat × Nat) : Bool := (A.row p.1).any fun x => (B.row p.2).all fun y => F (x, y)
def lonR (A B : Mo) (F : Nat × Nat → Bool) (p : Nat × Nat) : Bool := (B.row p.2).any fun y => (A.row p.1).all fun x => F (x, y)
def isT (A B : Mo) (L : RL) (p : Nat × Nat) : Bool := lonL A B (kF L) p || lonR A B (kF L) p
def newP (A B : Mo) (L : RL) : List (Nat × Nat) := (gridL A.n B.n).filter fun p => !kF L p && isT A B L p
def LR (A B : Mo) : Nat → RL
  | 0 => ((gridL A.n B.n).filter (T0 A B)).map fun p => (p, 0)
  | k + 1 => LR A B k ++ (newP A B (LR A B k)).map fun p => (p, k + 1)
section
variable {A B : Mo}
end
end Fx
/-! Rounds: the walk. -/
namespace Fx
open PySem PySem.Spec L2
section
variable {ro w : List D} {env : Env} {A B : Mo}
/-! ### names -/
/-! ### witnesses -/
/-- a rounds object -/
structure RoO (A B : Mo) (L : RL) (ro w : List D) (o : D) : Prop where
  o : ∃ d, see ro w o = .ins "Rounds" ["first", "second", "found"] [A.progD, B.progD, d] ∧ see ro w d = dR L
theorem f1 {d : D} : fieldV ["first", "second", "found"] [A.progD, B.progD, d] "first" = some A.progD := rfl
theorem f2 {d : D} : fieldV ["first", "second", "found"] [A.progD, B.progD, d] "second" = some B.progD := by
  simp [fieldV, ofString_inj]
theorem f3 {d : D} : fieldV ["first", "second", "found"] [A.progD, B.progD, d] "found" = some d := by
  simp [fieldV, ofString_inj]
end
end Fx
/-! Rounds: the object, the law's own. -/
namespace Fx
open PySem PySem.Spec L2
section
variable {ro w : List D} {env : Env} {A B : Mo}
/-! ### the object -/
end
end Fx
/-! Rounds: the whole; the law's own. -/
namespace Fx
open PySem PySem.Spec L2
def LF (A B : Mo) : RL := LR A B (A.n * B.n + 1)
section
variable {ro w : List D} {env : Env} {A B : Mo}
/-! ### the greatest bisimulation -/
end
end Fx
/-! Rounds: the law's own. -/
namespace Fx
open PySem PySem.Spec L2
section
variable {ro w : List D} {env : Env} {A B : Mo}
end
end Fx
/-! Rounds: the law's own, its rounds. -/
namespace Fx
open PySem PySem.Spec L2
section
variable {ro w : List D} {env : Env} {A B : Mo}
end
end Fx
/-! A model with a twin. -/
namespace Fx
open PySem PySem.Spec L2
section
variable {ro w : List D} {env : Env} {A B : Mo}
end
end Fx
/-! d.get(k, z), d a dict with nested keys. -/
namespace Fx
open PySem PySem.Spec L2 PyProof.Rows PySem.W
def IsN (X : Cx) (H : Hp) (a : Addr) : Prop := ∀ pins σ s, Inv X pins σ H s → s.TypeIs (.ref a) "dict" ∧ ∀ b, Value.ref a = .ref b → ∃ ob, s.heap.get? b = some ob ∧ ob.dict = none
section
variable {X : Cx} {o e f : Expr} {apos cpos : Pos} {td ty tx : TE}
end
section
variable {X : Cx} {W : WX} {fo fk fz : EF} {o e f : Expr} {pos apos : Pos}
end
section
variable {fo fk fz : EF} {env : Fx.Env} {ro w : List D}
end
end Fx
/-! The round of two worlds; chains. -/
namespace Fx
open PySem PySem.Spec L2
section
variable {ro w : List D} {env : Env} {A B : Mo}
/-! ### chains -/
end
end Fx
/-! What is told at round r no formula of less depth tells. -/
namespace Fx
open PySem PySem.Spec L2
section
variable {A B : Mo}
end
end Fx
/-! Comprehensions that fill an object of any kind; dicts with nested keys made so. -/
namespace Fx
open PySem PySem.Spec L2 PyProof.Rows
/-- what stands behind the test: where to, in which block, what then, what if it fails -/
abbrev Fill := Addr → PySem.Env → (Shared → Prop) → (Value → Shared → Prop) → Shared → Prop
abbrev errB (P : Program) (w : World) (A : Around) (env : PySem.Env) (R : Result → Shared → Prop) : Value → Shared → Prop := notedBy (model P w) A env fun x s' => R (.error x) s'
/-- a comprehension of one for -/
structure CompK (P : Program) (w : World) (A : Around) (e tg iter : Expr) (ifs : List Expr) (newAcc : Sem Value) (ob : Obj) (fill : Fill) : Prop where
  cl : ∃ r, clausesOf e = ⟨tg, iter, ifs, 0⟩ :: r
  new : ∀ {s : Shared} {Q E : Value → Shared → Prop}, Q (.ref s.heap.objs.size) { s with heap := s.heap.push ob } → wpAny (model P w) A newAcc Q E s
  loop : ∀ {R : Result → Shared → Prop} {s : Shared} {it : Value} {D : Addr} {env : PySem.Env} (J : Nat → Shared → Prop),
    (∀ n s, J n s → wpAny (model P w) A (pyNext it) (fun r s1 => match r with
      | none => R (.ok .next) s1
      | some v => wpAny (model P w) A (letOwnedTupleGo tg it v) (fun _ s2 => wpAny (model P w) A (assign tg env v) (fun _ s3 =>
          wpAny (model P w) A (forIn ifs true fun c r => if r = true then do let ok ← isTrue c env (eval c env); pure (ForInStep.yield ok) else pure (ForInStep.yield r)) (fun ok s4 =>
            if ok = true then fill D env (fun s5 => ∃ m, m < n ∧ J m s5) (errB P w A env R) s4 else ∃ m, m < n ∧ J m s4) (errB P w A env R) s3) (errB P w A env R) s2) (errB P w A env R) s1) (errB P w A env R) s) →
    ∀ n, J n s → codeAny (model P w) A (.compLoop e 0 it (.ref D) env) R s
  start : ∀ {R : Result → Shared → Prop} {s : Shared} {it acc : Value} {env : PySem.Env}, codeAny (model P w) A (.compLoop e 0 it acc env) R s →
    wpAny (model P w) A (pyIter it) (fun it' s' => codeAny (model P w) A (.compLoop e 0 it' acc env) R s') (errB P w A env R) s → codeAny (model P w) A (.compStart e 0 it acc env) R s
section
variable {X : Cx} {pins : List (Addr × Obj)} {s : Shared} {σ : L2.St} {H : Hp} {Q : VK} {e tg iter : Expr} {ifs : List Expr} {newAcc : Sem Value} {ob : Obj} {fill : Fill} {scope : Scope} {own : List (Str × Nat)} {pos' : Pos} {wi : TI} {g : TG} {tt : TT} {O : Addr → HO} {body : Addr → L2.St → Hp → (Hp → Prop) → Prop}
end
/-! ### dicts with nested keys -/
section
variable {X : Cx} {kx vx tg iter : Expr} {ifs : List Expr} {scope : Scope} {own : List (Str × Nat)} {pos : Pos} {wi : TI} {g : TG} {tt : TT} {tk tv : TE}
end
section
variable {C : Cfg} {W : WX} {σ : L2.St} {ρ : Zn} {H : Hp} {ro w : List D}
end
section
variable {X : Cx} {W : WX} {kx vx tg iter : Expr} {ifs : List Expr} {scope : Scope} {own : List (Str × Nat)} {pos : Pos} {it : Env → M (List D)} {tt : Env → M Bool} {fk fv : EF} {t : Tg} {σ : L2.St} {H : Hp}
end
/-! ### {} that stays -/
end Fx
/-! Formulas that tell two worlds apart: plain. -/
namespace Fx
open PySem PySem.Spec L2
section
variable {A B : Mo}
/-! ### the rounds -/
structure Tells (A B : Mo) (φ : Fm) (p : Nat × Nat) (rd : Nat) : Prop where
  md : Fo.md φ = rd
  l : A.sem false φ p.1 = true
  r : B.sem false φ p.2 = false
  ht : φ.ht ≤ 2 + 9 * rd
  ok : φ.Over SOk
end
end Fx
/-! Formulas that tell: the walk. -/
namespace Fx
open PySem PySem.Spec L2
section
variable {ro w : List D} {env : Env}
end
section
variable {ro w : List D} {env : Env} {A B : Mo}
end
/-! ### joined -/
section
variable {ro w : List D} {env : Env} {A B : Mo}
end
section
variable {ro w : List D} {env : Env} {A B : Mo}
end
section
variable {ro w : List D} {env : Env} {A B : Mo}
structure TellSpec (A B : Mo) (f : List D → M D) : Prop where
  not : ∀ (v u : Nat) (ro w : List D), v < A.n → u < B.n → kF (LF A B) (v, u) = false → f [A.progD, nD v, B.progD, nD u] ro w = .exn "NotTold" [] [] w
  yes : ∀ (v u r : Nat) (ro w : List D), ((v, u), r) ∈ LF A B → ∃ φ : Fm, f [A.progD, nD v, B.progD, nD u] ro w = .ok φ.toD w ∧ Tells A B φ (v, u) r
end
end Fx
/-! sorted({(.., ..) for ..}), the pairs of small numbers. -/
namespace Fx
open PySem PySem.Spec L2 PyProof.Rows
section
variable {P : Program} {w : World} {A : Around} {elt tg iter : Expr} {ifs : List Expr} {scope : Scope} {pos : Pos}
end
section
variable {X : Cx} {elt tg iter : Expr} {ifs : List Expr} {scope : Scope} {own : List (Str × Nat)} {pos : Pos} {wi : TI} {g : TG} {tt : TT} {te : TE}
end
/-! ### plain: ascending pairs -/
def cd2 (p : Nat × Nat) : Int := TS.code 64 [p.1, p.2]
/-! ### the rule -/
def prOf : D → Option (Nat × Nat)
  | .tup [.int i, .int j] => if 0 ≤ i ∧ i.natAbs < 64 ∧ 0 ≤ j ∧ j.natAbs < 64 then some (i.toNat, j.toNat) else none
  | _ => none
def hasP (r : List D) (p : Nat × Nat) : Bool := r.any fun d => decide (prOf d = some p)
section
variable {C : Cfg} {W : WX} {σ : L2.St} {ρ : Zn} {H : Hp} {ro w : List D}
/-- what the set holds, told by the pairs that were put into it -/
structure SetP (C : Cfg) (ρ : Zn) (H : Hp) (L : List (Addr × List Int)) (acc : List D) : Prop where
  rep : ∀ e ∈ L, ∃ p : Nat × Nat, e.2 = [(p.1 : Int), (p.2 : Int)] ∧ p.1 < 64 ∧ p.2 < 64 ∧ hasP acc p = true ∧ Rep C ρ H (prD p) (.ref e.1)
  all : ∀ p : Nat × Nat, hasP acc p = true → [(p.1 : Int), (p.2 : Int)] ∈ L.map (·.2)
  len : L.length ≤ acc.length
theorem SetP.mono {ρ' : Zn} {H' : Hp} {L : List (Addr × List Int)} {acc : List D} (h : SetP C ρ H L acc) (k : ∀ d v, Rep C ρ H d v → Rep C ρ' H' d v) : SetP C ρ' H' L acc :=
  ⟨fun e he => let ⟨p, a, b, c, d, r⟩ := h.rep e he; ⟨p, a, b, c, d, k _ _ r⟩, h.all, h.len⟩
end
section
variable {X : Cx} {W : WX} {elt tg iter : Expr} {ifs : List Expr} {scope : Scope} {own : List (Str × Nat)} {p1 pos q1 : Pos} {it : Env → M (List D)} {tt : Env → M Bool} {fe : EF} {t : Tg} {σ : L2.St} {H : Hp}
end
end Fx
/-! min of a list. -/
namespace Fx
open PySem PySem.Spec L2
section
variable {C : Cfg} {ro w : List D} {ns : List Int}
end
end Fx
/-! The smallest model: plain. -/
namespace Fx
open PySem PySem.Spec L2
section
variable {A : Mo}
/-- the worlds that are like v -/
def cand (A : Mo) (v : Nat) : List Nat := (List.range A.n).filter fun w => !kF (LF A A) (v, w)
def lst1 (A : Mo) (v : Nat) : Nat := (cand A v).headD 0
def lsts (A : Mo) : List Nat := (List.range A.n).map (lst1 A)
def ordQ (A : Mo) : List Nat := srt (lsts A)
def num (A : Mo) (v : Nat) : Nat := (ordQ A).idxOf (lst1 A v)
/-! ### the model of the classes -/
end
end Fx
/-! The smallest model: the walk. -/
namespace Fx
open PySem PySem.Spec L2
section
variable {ro w : List D} {env : Env} {A : Mo}
end
section
variable {ro w : List D} {env : Env} {A : Mo}
end
section
variable {ro w : List D} {env : Env} {A : Mo}
end
end Fx
/-! What the smallest model keeps: plain. -/
namespace Fx
open PySem PySem.Spec L2
section
variable {A : Mo}
/-! ### zig and zag -/
/-! ### the frame -/
/-! ### nothing more can be made one -/
end
end Fx
/-! try, except clauses without a name, else. -/
namespace Fx
open PySem PySem.Spec L2
section
variable {X : Cx} {W : WX} {body orelse : List Stmt} {pos : Pos} {fb fe : SF} {hds : List ExceptHandler} {h₀ : ExceptHandler} {L : List ((Str → Option Bool) × SF)}
end
end Fx
/-! Two models and their disjoint one. -/
namespace Fx
open PySem PySem.Spec L2
section
variable {A B : Mo}
end
end Fx
/-! range(n) as a value that is walked later. -/
namespace Fx
open PySem PySem.Spec L2 PyProof.Rows
section
variable {X : Cx} {tg e a : Expr} {td : TE} {ta : TA} {p pos : Pos}
end
section
variable {X : Cx} {W : WX} {tg e a : Expr} {f : EF} {fs : Env → M (List D)} {p pos : Pos}
end
section
variable {ro w : List D} {env : Env}
end
end Fx
/-! The skeleton of a model of S4: plain. -/
namespace Fx
open PySem PySem.Spec L2
structure S4f (A : Mo) : Prop where
  rf : ∀ v, v < A.n → A.s v v = true
  tr : ∀ u v w, u < A.n → v < A.n → w < A.n → A.s u v = true → A.s v w = true → A.s u w = true
section
variable {A : Mo}
/-! ### zig and zag -/
/-! ### the frame -/
/-! ### the law's order -/
end
end Fx
/-! Sets of nested tuples, fewer than 64 of them. The table's own laws are the kit's (L2); here they are used for the kind of nested keys. -/
namespace NS
open PySem PySem.Spec L2 PyProof.Rows
abbrev kh (w : World) (k : NestedKey) : Int := k.hash w
/-- the tuple at a is the key k -/
def IsN (h : Heap) (k : NestedKey) (a : Addr) : Prop := NestedIs h k (.ref a) ∧ k.depth ≤ 8
abbrev KL := List (Addr × NestedKey)
section
variable {P : Program} {w : World}
theorem IsN.one {h : Heap} {k k' : NestedKey} {a : Addr} (x : IsN h k a) (y : IsN h k' a) : k = k' := NestedIs.inj _ _ _ x.1 y.1
theorem IsN.keep {h h' : Heap} {k : NestedKey} {a : Addr} (x : IsN h k a) (g : ∀ b o, h.get? b = some o → h'.get? b = some o) : IsN h' k a := ⟨NestedIs.at (fun b o vs n e _ => g b o e) _ _ x.1, x.2⟩
/-! ### small questions asked of keys -/
/-! ### the set -/
def rws (w : World) (L : KL) : List (Int × Value) := L.map fun p => (kh w p.2, Value.ref p.1)
abbrev hsh (w : World) (L : KL) : List Int := L.map fun p => kh w p.2
/-- the rows of the set at a, and its table; nothing is said of whether the hashes are by value -/
structure SetK (w : World) (h : Heap) (a : Addr) (L : KL) (es : Array (Int × Value)) (ep : Nat) (t : SetTable) : Prop where
  ob : ∃ o, h.get? a = some o ∧ o.ExactSet ∧ o.data = .set es ep t
  rows : es.toList = rws w L
  tab : TabOk t (hsh w L)
  nd : (L.map (·.2)).Nodup
  keys : ∀ p ∈ L, IsN h p.2 p.1
  led : w.params.followText "set-order" = true ∨ t.led = true
  room : L.length * 5 < t.mask * 3
  few : L.length < 64
section
variable {A : Around} {E : Value → Shared → Prop} {s : Shared} {a : Addr} {L : KL} {es : Array (Int × Value)} {ep : Nat} {t : SetTable}
theorem rws_len (L : KL) (h : es.toList = rws w L) : es.size = L.length := by
  rw [← Array.length_toList, h]
  unfold rws
  rw [List.length_map]
theorem fits_of {hs : List Int} (T : TabOk t hs) (hn : hs.length ≤ t.mask) {n : Nat} (e : n = hs.length) : t.fits n = true := by
  have := T.sz
  unfold SetTable.fits SetTable.fill
  rw [T.dm, Bool.and_eq_true, beq_iff_eq, decide_eq_true_eq]
  refine ⟨by omega, ?_⟩
  show t.place.size + 0 ≤ t.mask
  omega
theorem SetK.fits (R : SetK w s.heap a L es ep t) : t.fits es.size = true := by
  have h := R.room
  have hl : (hsh w L).length = L.length := List.length_map _
  exact fits_of R.tab (by omega) (by rw [rws_len L R.rows, hl])
end
/-! ### adding -/
section
variable {A : Around} {E : Value → Shared → Prop} {s : Shared} {a : Addr} {L : KL} {es : Array (Int × Value)} {ep : Nat} {t : SetTable}
/-- what holds of the rows before the table is laid anew -/
structure PreK (w : World) (h : Heap) (a : Addr) (L : KL) (es : Array (Int × Value)) (ep : Nat) (t : SetTable) : Prop where
  ob : ∃ o, h.get? a = some o ∧ o.ExactSet ∧ o.data = .set es ep t
  rows : es.toList = rws w L
  tab : TabOk t (hsh w L)
  nd : (L.map (·.2)).Nodup
  keys : ∀ p ∈ L, IsN h p.2 p.1
  led : w.params.followText "set-order" = true ∨ t.led = true
  fit : L.length ≤ t.mask
  few : L.length < 64
end
/-! ### set(..) -/
/-- what the set has of the first i items -/
structure Had (ks : KL) (i : Nat) (L : KL) : Prop where
  sub : ∀ p ∈ L, p ∈ ks.take i
  all : ∀ p ∈ ks.take i, p.2 ∈ L.map (·.2)
  len : L.length ≤ i
theorem Had.step {ks L L' : KL} {i : Nat} {x : Addr × NestedKey} (g : Had ks i L) (h : ks[i]? = some x) (c1 : x.2 ∈ L.map (·.2) → L' = L) (c2 : x.2 ∉ L.map (·.2) → L'.Perm (x :: L)) : Had ks (i + 1) L' := by
  have tn := take_next h
  rcases Classical.em (x.2 ∈ L.map (·.2)) with c | c
  · rw [c1 c]
    refine ⟨fun p hp => by rw [tn]; exact List.mem_append_left _ (g.sub p hp), fun p hp => ?_, Nat.le_succ_of_le g.len⟩
    rw [tn] at hp
    rcases List.mem_append.mp hp with z | z
    · exact g.all p z
    · rw [List.mem_singleton.mp z]; exact c
  · have pm := c2 c
    refine ⟨fun p hp => ?_, fun p hp => ?_, by rw [pm.length_eq]; exact Nat.succ_le_succ g.len⟩
    · rw [tn]
      rcases List.mem_cons.mp (pm.mem_iff.mp hp) with e | z
      · rw [e]; exact List.mem_append_right _ (List.mem_singleton.mpr rfl)
      · exact List.mem_append_left _ (g.sub p z)
    · rw [(pm.map (·.2)).mem_iff, List.map_cons]
      rw [tn] at hp
      rcases List.mem_append.mp hp with z | z
      · exact List.mem_cons_of_mem _ (g.all p z)
      · rw [List.mem_singleton.mp z]; exact List.mem_cons_self
theorem SetK.keep {h h' : Heap} {a : Addr} {L : KL} {es : Array (Int × Value)} {ep : Nat} {t : SetTable} (R : SetK w h a L es ep t) (ha : ∀ o, h.get? a = some o → h'.get? a = some o) (hk : ∀ p ∈ L, IsN h' p.2 p.1) : SetK w h' a L es ep t := by
  obtain ⟨o, ho, r⟩ := R.ob
  exact { R with ob := ⟨o, ha o ho, r⟩, keys := hk }
section
variable {A : Around} {E : Value → Shared → Prop} {s : Shared}
end
end
end NS
/-! set(xs) of a list, of a tuple of keys (printed by mkset2.py). -/
namespace NS
open PySem PySem.Spec L2 PyProof.Rows
section
variable {P : Program} {w : World}
variable {A : Around} {E : Value → Shared → Prop} {s : Shared}
end
end NS
/-! sorted(set(xs)), xs a list or a tuple of nested tuples. -/
namespace Fx
open PySem PySem.Spec L2 PyProof.Rows PySem.W NS
/-- the set at a, without its keys -/
structure SetK0 (w : World) (h : Heap) (a : Addr) (L : NS.KL) : Prop where
  ex : ∃ (es : Array (Int × Value)) (ep : Nat) (t : SetTable), (∃ o, h.get? a = some o ∧ o.ExactSet ∧ o.data = .set es ep t) ∧ es.toList = rws w L ∧ L2.TabOk t (hsh w L) ∧ (L.map (·.2)).Nodup ∧ (w.params.followText "set-order" = true ∨ t.led = true) ∧ L.length * 5 < t.mask * 3 ∧ L.length < 64
/-- the key at an address -/
def Kp (X : Cx) (H : Hp) (p : Addr × NestedKey) : Prop := p.2.depth ≤ 8 ∧ ∃ ρ, toKey (ofKey p.2) = some p.2 ∧ Rep (cfg X) ρ H (ofKey p.2) (.ref p.1)
section
variable {X : Cx}
theorem Kp.is {pins : List (Addr × Obj)} {σ : L2.St} {H : Hp} {s : Shared} (I : Inv X pins σ H s) {p : Addr × NestedKey} (h : Kp X H p) : NS.IsN s.heap p.2 p.1 := by
  obtain ⟨h1, ρ, h2, h3⟩ := h
  exact ⟨Rep.nest I _ h2 h3 (show RelV (.ref p.1) (Value.ref p.1) from rfl), h1⟩
end
end Fx
/-! sorted(set(xs)) of nested tuples: what it does to trees. -/
namespace Fx
open PySem PySem.Spec L2 PyProof.Rows PySem.W NS
section
variable {X : Cx} {W : WX}
end
/-! ### of things that are sorted -/
section
variable {α : Type} [DecidableEq α] (S : Sk α)
def uniqS : List α → List α
  | [] => []
  | a :: l => if a ∈ uniqS l then uniqS l else a :: uniqS l
/-- ascending, each once -/
def asc (l : List α) : List α := S.sort (uniqS l)
end
end Fx
/-! x is True, x is not False. -/
namespace Fx
open PySem PySem.Spec L2 PyProof.Rows PySem.W
section
variable {C : Cfg}
end
end Fx
/-! A def with *args: its promise is kept from the state in which the tuple of the further arguments has been made. -/
namespace Fx
open PySem PySem.Spec L2 PyProof.Rows PySem.W
/-- a def whose last parameter takes the further arguments: run from the state s1 in which they are bound -/
structure FnOkV (P : Program) (w : World) (K : PySem.W.Frag) (mg : Str → Option Value) (base : Heap) (k : Nat) (f : Addr) (fd : FuncData) (ps : List Str) (sp : Sp) : Prop where
  len : ∀ vs H Q E, sp vs H Q E → vs.length = ps.length
  run : ∀ (A : Around) (outer : List PySem.Env) (s s1 : Shared) (H : Hp) (args : Args) (us : List Value) (vs : List V) (Q : VK) (E : XK), Room k A → K.In s.heap → Env0 P w K mg base A outer s1 H →
    (∀ (M : Model) (A : Around) (E : Value → Shared → Prop) (Q : List (Str × Value) → Shared → Prop), Q (ps.zip us) s1 → wpAny M A (bindArgs fd args) Q E s) → Vals vs us → sp vs H Q E →
    codeAny (model P w) A (.call (.ref f) args) (CR (L2.CX P w) outer P w H s1 Q E) s
/-- the further arguments in a new tuple -/
def Further (fd : FuncData) (ps : List Str) (m n : Nat) : Prop := ∀ us : List Value, us.length = n → bindArgs fd ⟨us, []⟩ = (newTuple (us.drop m) >>= fun t => pure (ps.zip (us.take m ++ [t])))
section
variable {P : Program} {w : World} {K : PySem.W.Frag} {mg : Str → Option Value} {base : Heap}
end
/-- a def with *args of the top, by its name: m parameters ahead of them; it's called with as many arguments as ns tells -/
structure CallOkV (P : Program) (w : World) (K : PySem.W.Frag) (mg : Str → Option Value) (base : Heap) (n : Nat) (x : Str) (g : List D → M D) (m : Nat) (ns : List Nat) : Prop where
  ex : ∃ a fd ps, mg x = some (.ref a) ∧ PySem.W.keepIn K (.ref a) = true ∧ (∀ j ∈ ns, Further fd ps m j) ∧ ps.length = m + 1 ∧ FnOkV P w K mg base n a fd ps (spF ⟨K, mg, w⟩ g (m + 1))
section
variable {X : Cx} {W : WX} {pos p : Pos} {e : Expr} {es : List Expr} {x : Str} {g : List D → M D} {m n : Nat} {ns : List Nat} {fs : Fx.Env → M (List D)}
end
end Fx
/-! A constant table of defs: a key in it, a call of what stands in it. -/
namespace Fx
open PySem PySem.Spec L2 PyProof.Rows PySem.W
theorem kd_fn {C : Cfg} {x : Str} {a : Addr} (h : C.mg x = some (.ref a)) : KD C (.fn x) (.ref a) := fun _ _ => ⟨a, h, rfl⟩
/-- a table with some keys that it lacks -/
structure TabF (C : Cfg) (x : Str) (rows : List (Str × D)) (miss : List Str) : Prop where
  ex : ∃ p, C.mg x = some (.ref p) ∧ (p == sysModules) = false ∧ (∀ q ∈ rows, ∃ v, KDct C.K C.w p q.1 v ∧ KD C q.2 v) ∧ ∀ z ∈ miss, KMiss C.K C.w p z
def tabHas (rows : List (Str × D)) (x : Str) : Bool := rows.any fun q => decide (q.1 = x)
section
variable {X : Cx} {W : WX} {pos p pos' : Pos} {e ef : Expr} {es : List Expr} {x : Str} {rows : List (Str × D)} {miss : List Str} {fe ff : EF} {n : Nat} {fs : Fx.Env → M (List D)}
theorem TabF.tab (T : TabF (cfg X) x rows miss) : TabK (cfg X) x rows := by
  obtain ⟨p, h1, _, h2, _⟩ := T.ex
  exact ⟨⟨p, h1, h2⟩⟩
def rInTab (X : Cx) : R2 := fun x y H Q => ∃ p z b, x = .str z ∧ y = .ref p ∧ (p == sysModules) = false ∧ ((b = true ∧ ∃ v, KDct X.K X.w p z v) ∨ (b = false ∧ KMiss X.K X.w p z)) ∧ Q (.bl b) H
theorem op_inTab : OpR X (compareOp .In) (rInTab X) := by
  intro pins s σ H x y v u Q I rx ry h
  obtain ⟨p, z, b, rfl, rfl, hp, kd, q⟩ := h
  obtain ⟨t, rfl⟩ := rx
  obtain rfl : u = Value.ref p := ry
  rcases kd with ⟨rfl, v, es, n, r, hl, hk, e, ru⟩ | ⟨rfl, es, n, hl, hk, _, e⟩
  · have hm := PySem.W.mapOf_K (prog := X.prog) (w := X.w) I.kIn hl hk
    refine wpAny_in_of (strKind_is X.prog X.w z t) hp hm ?_
    rw [PySem.W.find_K hl e]
    exact ⟨.bl true, H, I.tok _, rfl, q⟩
  · have hm := PySem.W.mapOf_K (prog := X.prog) (w := X.w) I.kIn hl hk
    refine wpAny_in_of (strKind_is X.prog X.w z t) hp hm ?_
    rw [PySem.W.find_K hl e]
    exact ⟨.bl false, H, I.tok _, rfl, q⟩
/-- a call of what an expression tells -/
def cCallE (T : Tab) (ff : EF) (fs : Fx.Env → M (List D)) : EF := fun env => M.bind (ff env) fun d => match d with
  | .fn y => (match T.get y with
    | some g => M.bind (fs env) g
    | none => M.no)
  | _ => M.no
theorem pf_callE {T : Tab} (hT : TabOk X n T) (hr : Room n X.A) (hx : PassW X W) (hf : PE X ef (tE (cfg X) W ff)) (ha : PA X (e :: es) (tA (cfg X) W fs))
    (hc : ∀ env, eval (.Call ef (e :: es) [] pos) env = (do callWith pos (← eval ef env) [] (backTo pos (starEach (e :: es) env)) (backToKw pos (keywordEach [] env))) := by intros; rfl)
    (he : starEach (e :: es) X.env = (false, eval e X.env) :: starEach es X.env := by rfl) (hpl : (backTo pos (starEach es X.env)).any (·.1) = false := by rfl) : PE X (.Call ef (e :: es) [] pos) (tE (cfg X) W (cCallE T ff fs)) := by
  refine ⟨fun pins s σ H Q I ⟨ρ, env, ro, w, hS, hE, q⟩ => ?_⟩
  refine Call_ (thn (hf.run pins s σ H (fun v H1 => ∃ (y : Str) (a : Addr) (g : List D → M D) (np : Nat) (ρ1 : Zn) (w1 : List D), v = .ref a ∧ X.mg y = some (.ref a) ∧ CallX X n y g np ∧ RepS (cfg X) ρ1 H1 (ro ++ w1) ∧ RepE (cfg X) ρ1 H1 env σ ∧ AfterR (cfg X) (Rep (cfg X)) W σ ρ1 H1 ro (M.bind (fs env) (fun ds => if ds.length = np then g ds else M.no) ro w1) Q) I ?_) fun u s1 ⟨v, H1, I1, r1, y, a, g, np, ρ1, w1, ev, hm', F, s1S, e1, q1⟩ => ?_) (hc _)
  · refine tR_seq hS hE q fun d w1 v ρ1 H1 x1 s1 r1 q1 => ?_
    cases d with
    | fn y =>
      simp only at q1
      cases e2 : T.find? (fun q => q.1 == y) with
      | none =>
        have eT : T.get y = none := by unfold Tab.get; rw [e2]
        rw [eT] at q1
        exact (show False from q1).elim
      | some r =>
        obtain ⟨y', np, g⟩ := r
        have hy : y' = y := by
          have := List.find?_some e2
          simpa using this
        subst hy
        have eT : T.get y' = some fun ds => if ds.length = np then g ds else M.no := by unfold Tab.get; rw [e2]
        rw [eT] at q1
        obtain ⟨a, h2, h3⟩ := r1
        exact ⟨y', a, g, np, ρ1, w1, h3, h2, hT _ (List.mem_of_find?_eq_some e2), s1, hE.ext x1, q1⟩
    | _ => exact (show False from q1).elim
  · subst ev
    obtain ⟨a', fd, ps, hm, hk, hb, hps, ok⟩ := F.ex
    cases hm.symm.trans hm'
    cases r1
    refine PySem.W.callWith_K (h₀ := X.base) I.ok.mod.kin hk (thn (ha.run pos pins s1 σ _ (fun vs H2 => spF ⟨X.K, X.mg, X.w⟩ g np vs H2 Q (WE W σ)) I1 ?_) fun us s2 ⟨vs, H2, I2, r, q⟩ => ⟨I2.kIn, ?_⟩) he hpl
    · refine tR_seq s1S e1 q1 fun ds w2 vs ρ2 H2 x2 s2 r2 q2 => ?_
      by_cases c : ds.length = np
      · rw [if_pos c] at q2
        exact ⟨ρ2, ds, ro, w2, by rw [← r2.len]; exact c, s2, r2, q2.sig⟩
      · rw [if_neg c] at q2
        exact (show False from q2).elim
    · exact run_fnS ok hr hb (hx σ) I2 r q
end
section
variable {ro w : List D} {env : Fx.Env} {fe : EF} {rows : List (Str × D)} {miss : List Str}
theorem x_callE {T : Tab} {ff : EF} {x : Str} {g : List D → M D} {fs : Fx.Env → M (List D)} {w1 : List D} (h : ff env ro w = .ok (.fn x) w1) (hg : T.get x = some g) : cCallE T ff fs env ro w = (fs env ro w1).an fun ds w2 => g ds ro w2 := by
  show M.bind (ff env) _ ro w = _
  rw [x_bind, h, an_ok]
  simp only [hg]
  exact x_bind
end
end Fx
/-! Two lists joined to one that may change. -/
namespace Fx
open PySem PySem.Spec L2 PyProof.Rows
end Fx
/-! Sets of texts, fewer than 64 of them: what they are, adding, set(xs). -/
namespace NT
open PySem PySem.Spec L2 PyProof.Rows
def keyT (e : Int × Value) : Str := match e.2 with | .str k _ => k | _ => Str.empty
def GoodT (w : World) (e : Int × Value) : Prop := ∃ k u, e.2 = Value.str k u ∧ e.1 = hashStr w k
/-- the set at a has the texts ks -/
def SetX (w : World) (h : Heap) (a : Addr) (ks : List Str) : Prop :=
  ∃ o rows ep t, h.get? a = some o ∧ o.ExactSet ∧ o.data = .set rows ep t ∧ (∀ e ∈ rows.toList, GoodT w e) ∧ (rows.toList.map keyT).Nodup ∧ (∀ k, k ∈ rows.toList.map keyT ↔ k ∈ ks) ∧
    rows.size ≤ ks.length ∧ ks.length < 64 ∧ t.fits rows.size = true ∧ Ris t.place.toList ∧ (w.params.followText "set-order" = true ∨ t.led = true)
section
variable {P : Program} {w : World} {h h' : Heap} {a : Addr} {ks : List Str}
theorem SetX.keep (R : SetX w h a ks) (g : ∀ o, h.get? a = some o → h'.get? a = some o) : SetX w h' a ks := by
  obtain ⟨o, rows, ep, t, po, r⟩ := R
  exact ⟨o, rows, ep, t, g o po, r⟩
end
section
variable {P : Program} {w : World} {A : Around} {E : Value → Shared → Prop} {s : Shared} {a : Addr} {ks : List Str}
end
end NT
/-! sorted(set(xs)), xs a list of texts. -/
namespace NT
open PySem PySem.Spec L2 PyProof.Rows
section
variable {P : Program} {w : World} {A : Around} {E : Value → Shared → Prop} {s : Shared}
end
end NT
namespace Fx
open PySem PySem.Spec L2 PyProof.Rows PySem.W NT
section
variable {X : Cx}
end
/-! ### over trees -/
section
variable {X : Cx} {W : WX}
end
end Fx
/-! l.extend(xs), xs a list that stands still. -/
namespace XL
open PySem PySem.Spec PyProof.Rows
open PySem.AutoSeq1 (wpAny_loadPart')
end XL
namespace Fx
open PySem PySem.Spec L2 PyProof.Rows
section
variable {X : Cx}
end
section
variable {C : Cfg} {W : WX}
end
section
variable {X : Cx} {W : WX} {e o : Expr} {es : List Expr} {pos : Pos}
end
end Fx
/-! A call with a spread tuple: f(a, .., *xs). -/
namespace Fx
open PySem PySem.Spec L2 PyProof.Rows PySem.W
section
variable {X : Cx} {W : WX} {e : Expr} {es : List Expr} {p : Pos} {f : EF}
end
section
variable {X : Cx} {W : WX} {pos p : Pos} {e : Expr} {es : List Expr} {x : Str} {g : List D → M D} {m n : Nat} {ns : List Nat} {fs : Fx.Env → M (List D)}
end
end Fx
/-! {k: v for a in .. for b in ..}, keys numbers or texts: the model's side. -/
namespace Fx
open PySem PySem.Spec L2 PyProof.Rows
section
variable {P : Program} {w : World} {A : Around} {kx vx t0 i0 t1 i1 : Expr} {scope : Scope} {pos : Pos}
variable {ifs0 ifs1 : List Expr} {R : Result → Shared → Prop} {s : Shared} {it : Value} {D : Addr} {env : PySem.Env}
end

/-! ### the second clause's walk -/
section
variable {X : Cx} {kx vx tg iter tg1 iter1 : Expr} {scope : Scope} {own : List (Str × Nat)} {vs1 : List Nat} {pos : Pos} {wi wi1 : TI} {g g1 : TG} {tt : TT} {tk tv : TE}
end
end Fx
/-! {k: v for a in .. for b in ..} over trees: it stands still. -/
namespace Fx
open PySem PySem.Spec L2 PyProof.Rows
def dputP (p : List D × List D) (q : D × D) : List D × List D := if dhas p.1 q.1 = true then (p.1, dputX p.1 p.2 q.1 q.2) else (p.1 ++ [q.1], p.2 ++ [q.2])
def RelP (C : Cfg) (ρ : Zn) (H : Hp) (p : List D × List D) (kvs : List (Key × V)) : Prop := p.1.map keyOf = kvs.map (fun q => some q.1) ∧ Reps C ρ H p.2 (kvs.map (·.2))
section
variable {C : Cfg} {ρ ρ' : Zn} {H H' : Hp}
theorem RelP.put {p : List D × List D} {kvs : List (Key × V)} {k x : D} {κ : Key} {z : V} (h : RelP C ρ H p kvs) (hk : keyOf k = some κ) (hx : Rep C ρ H x z) : RelP C ρ H (dputP p (k, x)) (putK kvs κ z) := by
  obtain ⟨ks, xs, e, h1, h2⟩ := dput_rep hk hx h.1 h.2
  unfold dput at e
  unfold dputP
  simp only
  split at e
  · rename_i c
    rw [if_pos c]
    injection e with e1 e2
    subst e1 e2
    exact ⟨h1, h2⟩
  · rename_i c
    rw [if_neg c]
    injection e with e1 e2
    subst e1 e2
    exact ⟨h1, h2⟩
theorem RelP.ext {p : List D × List D} {kvs : List (Key × V)} (x : Ext ρ ρ' H H') (h : RelP C ρ H p kvs) : RelP C ρ' H' p kvs := ⟨h.1, Reps.ext x _ h.2⟩
theorem RelP.extR {p : List D × List D} {kvs : List (Key × V)} (x : ExtR ρ ρ' H H') (h : RelP C ρ H p kvs) : RelP C ρ' H' p kvs := ⟨h.1, Reps.extR x _ h.2⟩
end
section
variable {X : Cx} {C : Cfg} {W : WX} {σ : L2.St} {ρ : Zn} {H : Hp} {ro w : List D}
end
section
variable {X : Cx} {W : WX} {pos : Pos} {kx vx tg iter tg1 iter1 : Expr} {scope : Scope} {own : List (Str × Nat)} {it it1 : Env → M (List D)} {fk fv : EF} {i j : Nat} {σ : L2.St} {H : Hp}
end
/-! ### what it makes -/
end Fx
/-! Methods of texts with arguments: x.m(a, ..). -/
namespace Fx
open PySem PySem.Spec L2 PyProof.Rows PySem.W
def cStr (g : Str → List D → M D) (fo : EF) (fs : Env → M (List D)) : EF := fun env => M.bind (fo env) fun d => match d with
  | .str x => M.bind (fs env) fun ds => g x ds
  | _ => M.no
def OkS (C : Cfg) (r : V → List V → Hp → VK → Prop) (g : Str → List D → M D) : Prop :=
  ∀ (W : WX) (σ : L2.St) (ρ : Zn) (H : Hp) (ro w : List D) (x : Str) (ds : List D) (xs : List V) (Q : VK), RepS C ρ H (ro ++ w) → Reps C ρ H ds xs → AfterR C (Rep C) W σ ρ H ro (g x ds ro w) Q → r (.str x) xs H Q
section
variable {X : Cx} {W : WX} {fo : EF} {fs : Env → M (List D)} {r : V → List V → Hp → VK → Prop} {g : Str → List D → M D}
theorem tE_str (hr : OkS (cfg X) r g) {σ : L2.St} {H : Hp} {Q : VK} (q : tE (cfg X) W (cStr g fo fs) σ H Q) : tBM X.K "str" r (tE (cfg X) W fo) (tA (cfg X) W fs) σ H Q := by
  obtain ⟨ρ, env, ro, w, hS, hE, q⟩ := q
  refine tR_seq hS hE q fun d w1 v ρ1 H1 x1 s1 r1 q1 => ?_
  cases d with
  | str x =>
    cases (show v = .str x from r1)
    refine ⟨rfl, ?_⟩
    dsimp only at q1
    refine tR_seq s1 (hE.ext x1) q1 fun es w2 us ρ2 H2 x2 s2 r2 q2 => ?_
    exact hr W σ ρ2 H2 ro w2 x es us Q s2 r2 q2
  | _ => exact (show False from q1).elim
/-- x.startswith(y, i) -/
def gStarts (x : Str) (ds : List D) : M D := match ds with
  | [.str y, .int i] => fun _ w => .ok (.bl (Txt.startswith3 x y i)) w
  | _ => M.no
theorem oks_starts {C : Cfg} : OkS C (fun x xs H Q => ∃ (a b : Str) (i : Int), x = .str a ∧ xs = [.str b, .int i] ∧ Q (.bl (Txt.startswith3 a b i)) H) gStarts := by
  intro W σ ρ H ro w x ds xs Q hS hds q
  unfold gStarts at q
  split at q
  · rename_i y i
    obtain ⟨v, vs, rfl, h1, h2⟩ := hds
    obtain ⟨v2, vs2, rfl, h3, h4⟩ := h2
    cases (show v = .str y from h1)
    cases (show v2 = .int i from h3)
    cases (show vs2 = [] from h4)
    exact ⟨x, y, i, rfl, rfl, ok_bl hS q⟩
  · exact (show False from q).elim
theorem pf_starts {o e : Expr} {es : List Expr} {apos pos : Pos} (ho : PE X o (tE (cfg X) W fo)) (ha : PA X (e :: es) (tA (cfg X) W fs))
    (hbase : attributeBase o "startswith" X.env (eval o X.env) = eval o X.env := by rfl)
    (hfew : ((backTo pos (starEach (e :: es) X.env)).all (fun x => !x.1) && (backToKw pos (keywordEach [] X.env)).all (fun x => x.1.isSome)
      && decide ((e :: es).length + ([] : List Keyword).length + (if ([] : List Keyword).isEmpty then 0 else 1) < 30)) = true := by rfl)
    (hline : (apos.endLine == pos.line) = true := by rfl) (hs : starEach (e :: es) X.env = (false, eval e X.env) :: starEach es X.env := by rfl) (hplain : (backTo pos (starEach es X.env)).any (·.1) = false := by rfl) :
    PE X (.Call (.Attribute o "startswith" apos) (e :: es) [] pos) (tE (cfg X) W (cStr gStarts fo fs)) :=
  pe_imp (pe_bm PySem.F.plainAttrs_str PySem.F.slot_str_startswith PySem.F.type_str_startswith mt_startswith3 ho ha hbase hfew hline hs hplain) fun _ _ _ q => tE_str oks_starts q
end
section
variable {env : Env} {ro w : List D} {fo : EF} {fs : Env → M (List D)}
theorem x_str {x : Str} {g : Str → List D → M D} (h : fo env ro w = .ok (.str x) w) : cStr g fo fs env ro w = (fs env ro w).an fun ds w1 => g x ds ro w1 := by
  show M.bind (fo env) _ ro w = _
  simp only [x_bind, h, an_ok]
theorem starts_str {x y : Str} {i : Int} : gStarts x [.str y, .int i] ro w = .ok (.bl (Txt.startswith3 x y i)) w := rfl
end
end Fx
/-! A constant table: any text in it or not. -/
namespace Fx
open PySem PySem.Spec L2 PyProof.Rows PySem.W
def keyName (e : DictEntry) : Option Str := match e.key with
  | .str x _ => some x
  | _ => none
theorem keyName_some {e : DictEntry} {x : Str} (h : keyName e = some x) : ∃ t, e.key = .str x t := by
  unfold keyName at h
  split at h
  · rename_i y t q
    cases h
    exact ⟨t, q⟩
  · cases h
theorem kmiss_of {K : PySem.W.Frag} {w : World} {a : Addr} {es : Array DictEntry} {n : Nat} {rows : List (Str × D)} (hl : K.lookup a = some ⟨.type "dict", none, .dict es n, #[]⟩) (hk : KeysLit w.params es.toList) (ha : (a == sysModules) = false)
    (hn : es.toList.map keyName = rows.map fun q => some q.1) (z : Str) (hz : tabHas rows z = false) : KMiss K w a z := by
  refine ⟨es, n, hl, hk, ha, ?_⟩
  have key : ∀ e ∈ es.toList, ∃ x t, e.key = .str x t ∧ x ≠ z := fun e he => by
    have h1 : keyName e ∈ rows.map fun q => some q.1 := by rw [← hn]; exact List.mem_map_of_mem he
    obtain ⟨q, hq, e1⟩ := List.mem_map.mp h1
    obtain ⟨t, e2⟩ := keyName_some e1.symm
    refine ⟨q.1, t, e2, fun e3 => ?_⟩
    unfold tabHas at hz
    rw [List.any_eq_false] at hz
    exact hz q hq (decide_eq_true e3)
  unfold nsIn
  rw [hl]
  dsimp only
  have f : es.toList.find? (fun e => e.key.isStr z) = none := by
    rw [List.find?_eq_none]
    intro e he h
    obtain ⟨x, t, e1, e2⟩ := key e he
    rw [e1] at h
    exact e2 (by simpa [Value.isStr] using h)
  rw [f]
  have g : es.toList.any (fun e => e.refKey) = false := by
    rw [List.any_eq_false]
    intro e he h
    obtain ⟨x, t, e1, e2⟩ := key e he
    unfold DictEntry.refKey at h
    rw [e1] at h
    exact absurd h (by simp)
  simp [g]
structure TabG (C : Cfg) (x : Str) (rows : List (Str × D)) : Prop where
  ex : ∃ p, C.mg x = some (.ref p) ∧ (p == sysModules) = false ∧ (∀ q ∈ rows, ∃ v, KDct C.K C.w p q.1 v ∧ KD C q.2 v) ∧ ∀ z, tabHas rows z = false → KMiss C.K C.w p z
def gTabG (rows : List (Str × D)) (d : D) : M D := match d with
  | .str x => M.pure (.bl (tabHas rows x))
  | _ => M.no
def cTabG (rows : List (Str × D)) (fe : EF) : EF := fun env => M.bind (fe env) fun d => M.bind (M.see d) fun d => gTabG rows d
section
variable {X : Cx} {W : WX} {pos p pos' : Pos} {e : Expr} {x : Str} {rows : List (Str × D)} {fe : EF}
theorem TabG.tab (T : TabG (cfg X) x rows) : TabK (cfg X) x rows := by
  obtain ⟨p, h1, _, h2, _⟩ := T.ex
  exact ⟨⟨p, h1, h2⟩⟩
theorem tab_op (T : TabG (cfg X) x rows) : ∃ p, X.mg x = some (.ref p) ∧ ∀ {σ : L2.St} {H : Hp} {Q : VK}, tE (cfg X) W (cTabG rows fe) σ H Q → tE (cfg X) W fe σ H fun y H1 => rInTab X y (.ref p) H1 Q := by
  obtain ⟨p, hm, hp, hr, hn⟩ := T.ex
  refine ⟨p, hm, fun {σ H Q} ⟨ρ, env, ro, w, hS, hE, q⟩ => ?_⟩
  refine tR_seq hS hE q fun d w1 v ρ1 H1 x1 s1 r1 q1 => ?_
  have sd := seen_of s1 r1
  have q2 : AfterR (cfg X) (Rep (cfg X)) W σ ρ1 H1 ro (gTabG rows (see ro w1 d) ro w1) Q := q1
  generalize see ro w1 d = d' at sd q2
  unfold gTabG at q2
  cases d' with
  | str z =>
    simp only at q2
    cases c : tabHas rows z with
    | true =>
      rw [c] at q2
      have c0 := c
      unfold tabHas at c0
      rw [List.any_eq_true] at c0
      obtain ⟨r, hr', ez⟩ := c0
      have ez := of_decide_eq_true ez
      obtain ⟨v', k1, k2⟩ := hr _ hr'
      rw [ez] at k1
      exact ⟨p, z, true, sd.str, rfl, hp, .inl ⟨rfl, v', k1⟩, ok_bl s1 q2⟩
    | false =>
      rw [c] at q2
      exact ⟨p, z, false, sd.str, rfl, hp, .inr ⟨rfl, hn z c⟩, ok_bl s1 q2⟩
  | _ => exact (show False from q2).elim
theorem pt_tabG (T : TabG (cfg X) x rows) (hg : Gl X x) (he : PE X e (tE (cfg X) W fe)) (hd : (x == ("__debug__" : Str)) = false := by decide) (hb : behindInMarks .In (.Name x pos') = false := by rfl) : PT X (.Compare e [.In] [.Name x pos'] pos) (tT (cfg X) W (cTest (cTabG rows fe))) := by
  obtain ⟨p, hm, f⟩ := tab_op (W := W) (fe := fe) T
  refine pt_imp (pt_cmpR op_inTab he (pe_glob (v := .ref p) hg hm rfl hd) hb) fun σ H Q ⟨ρ, env, ro, w, hS, hE, q⟩ => ?_
  refine f (Q := fun v H1 => ∃ k, v = .bl k ∧ Q k H1) ⟨ρ, env, ro, w, hS, hE, ?_⟩
  unfold cTest M.bind at q
  cases e : cTabG rows fe env ro w with
  | ok d w1 =>
    rw [e] at q
    intro v ρ1 H1 x1 s1 r1
    cases d with
    | bl k => exact ⟨k, r1, q k ρ1 H1 x1 s1 rfl⟩
    | _ => exact (show False from q).elim
  | exn c ns xs w1 =>
    rw [e] at q
    exact q
  | no => rw [e] at q; exact q
end
section
variable {X : Cx} {W : WX} {pos p : Pos} {x : Str} {g : List D → M D} {n : Nat}
/-- C() -/
theorem pf_make0 (F : MakeX X n x g 0) (hr : Room n X.A) (hx : PassW X W) (hg : Gl X x) (hdb : (x == ("__debug__" : Str)) = false := by decide) : PE X (.Call (.Name x p) [] [] pos) (tE (cfg X) W (cCall0 g)) := by
  obtain ⟨A, hm, hk, to⟩ := F.ex
  have to := to X rfl rfl rfl rfl rfl hr
  refine ⟨fun pins s σ H Q I ⟨ρ, env, ro, w, hS, hE, q⟩ => wpAny_Call_Name_kw (ld_glob I hg hm ?_ hdb)⟩
  exact PySem.W.callWith_K0 I.kIn hk (to pins s σ H [] [] Q (WE W σ) (hx σ) I .nil ⟨ρ, [], ro, w, rfl, hS, rfl, q.sig⟩)
end
section
variable {ro w : List D} {env : Fx.Env} {fe : EF} {rows : List (Str × D)}
theorem x_tabG : cTabG rows fe env ro w = (fe env ro w).an fun d w1 => gTabG rows (see ro w1 d) ro w1 := by
  show M.bind (fe env) _ ro w = _
  simp
end
end Fx
/-! A text many times: "ab" * n. -/
namespace Fx
open PySem PySem.Spec L2 PyProof.Rows PySem.W
theorem mul_okS {x : Str} {n : Int} (h1 : n.natAbs < 4611686018427387904) (h2 : x.length * n.toNat ≤ 16777216) : MulOk x n := by
  refine ⟨?_, fun h _ => ?_, fun h _ => ?_⟩
  · rw [Bool.or_eq_false_iff]
    exact ⟨decide_eq_false (by omega), decide_eq_false (by omega)⟩
  · have p : (2 ^ 63 - 1 : Int) = 9223372036854775807 := by decide
    rw [p]
    intro g
    have hn : 0 < n := by omega
    have h3 : ((x.length * n.toNat : Nat) : Int) ≤ ((16777216 : Nat) : Int) := Int.ofNat_le.mpr h2
    rw [Int.natCast_mul, Int.toNat_of_nonneg (by omega)] at h3
    have e : (x.length : Int) * n ≤ 9223372036854775807 := Int.le_trans h3 (by decide)
    have := (Int.le_ediv_iff_mul_le hn).mpr e
    omega
  · show Builtin.Str.tooLong _ = false
    unfold Builtin.Str.tooLong
    exact decide_eq_false (by
      have hs : sizeLine = 16777216 := rfl
      omega)
def gMulS (x y : D) : M D := match x, y with
  | .str a, .int n => fun _ w => if n.natAbs < 4611686018427387904 ∧ a.length * n.toNat ≤ 16777216 then .ok (.str (Txt.mul a n)) w else .no
  | _, _ => M.no
section
variable {X : Cx} {C : Cfg}
theorem op_mulS : OpR X (binaryOp .Mult) (fun x y H Q => ∃ a i, x = .str a ∧ y = .int i ∧ MulOk a i ∧ Q (.str (Txt.mul a i)) H) := by
  intro pins s σ H x y v u Q I rx ry h
  obtain ⟨a, i, rfl, rfl, hz, q⟩ := h
  obtain ⟨t, rfl⟩ := rx
  obtain ⟨t', rfl⟩ := ry
  exact SB.mul hz fun t' k => ⟨.str _, H, I.tok _, ⟨_, rfl⟩, q⟩
theorem ok2_mulS : Ok2 C (fun x y H Q => ∃ a i, x = .str a ∧ y = .int i ∧ MulOk a i ∧ Q (.str (Txt.mul a i)) H) gMulS := by
  intro W σ ρ H ro w d e x y Q hS hd he q
  cases d with
  | str a =>
    cases e with
    | int n =>
      unfold gMulS at q
      by_cases c : n.natAbs < 4611686018427387904 ∧ a.length * n.toNat ≤ 16777216
      · simp only [if_pos c] at q
        exact ⟨a, n, hd.str, he.int, mul_okS c.1 c.2, ok_str hS q⟩
      · simp only [if_neg c] at q
        exact (show False from q).elim
    | _ => exact (show False from q).elim
  | _ => exact (show False from q).elim
end
theorem mulS_str {a : Str} {n : Int} {ro w : List D} (h : n.natAbs < 4611686018427387904 ∧ a.length * n.toNat ≤ 16777216) : gMulS (.str a) (.int n) ro w = .ok (.str (Txt.mul a n)) w := if_pos h
theorem foldl_cat : ∀ (k : Nat) (c acc : Array Nat), ((List.replicate k c).foldl (· ++ ·) acc).toList = acc.toList ++ (List.replicate k c.toList).flatten
  | 0, c, acc => by simp
  | k + 1, c, acc => by
    rw [List.replicate_succ, List.foldl_cons, foldl_cat k, List.replicate_succ, List.flatten_cons, Array.toList_append, List.append_assoc]
theorem mul_cps (a : Str) (n : Nat) : (Txt.mul a (n : Int)).cps.toList = (List.replicate n a.cps.toList).flatten := by
  unfold Txt.mul
  by_cases h0 : n = 0
  · subst h0
    rfl
  · rw [if_neg (by omega)]
    by_cases h1 : n = 1
    · subst h1
      simp
    · by_cases h2 : a.length = 0
      · have e : a.cps = #[] := Array.eq_empty_of_size_eq_zero h2
        have e3 : (((n : Int) == 1 || a.length == 0) = true) := by simp [h2]
        rw [if_pos e3, e]
        simp
      · have e3 : ¬ (((n : Int) == 1 || a.length == 0) = true) := by
          simp
          exact ⟨by omega, h2⟩
        rw [if_neg e3]
        have := foldl_cat n a.cps #[]
        simpa using this
end Fx
namespace K
open PySem PySem.Spec L2 Fx
inductive Fn where
  | f_neg
  | f_verum
  | f_dia
  | f_iff
  | f_parts
  | f_height
  | f_is_name
  | f_tokens_of
  | f_checked
  | f_boxed
  | f_both
  | f_either
  | f_implied
  | f_parse
  | f_law_pool
  | f_law_spread
  | f_law_draw
  | f_law_same
  | f_law_not
  | f_law
  | f_Reader_init
  | f_Reader_operand
  | f_Reader_reduce
  | f_Reader_sign
  | f_Reader_close
  | f_Reader

def topS (i : Nat) : Stmt := PySem.Challenge.pw_elsewhere_k10_heights_and_brackets_at_th.main.body.getD i (.Pass ⟨0, 0, 0, 0⟩)

def g_FALSUM : D := .tup [.str "falsum"]

def g_MAX_HEIGHT : D := .int 60

def g_MAX_NAME : D := .int 12

def g_LETTERS : D := .str "abcdefghijklmnopqrstuvwxyz"

def g_SIGNS : D := .tup [.str "<->", .str "->", .str "[]", .str "<>", .str "F", .str "T", .str "~", .str "&", .str "|", .str "(", .str ")"]

def t_PREFIXES : List (Str × D) := [("~", .fn "neg"), ("[]", .fn "boxed"), ("<>", .fn "dia")]

def t_BINARY : List (Str × D) := [("<->", .fn "iff"), ("->", .fn "implied"), ("|", .fn "either"), ("&", .fn "both")]

def t_LEVELS : List (Str × D) := [("<->", .int 1), ("->", .int 2), ("|", .int 3), ("&", .int 4)]

def csL : List Str := ["InvalidText"]
def usL : List Str := ["InvalidText"]
def subL (c u : Str) : Bool := [(("InvalidText" : Str), ("InvalidText" : Str))].contains (c, u)

abbrev st_neg : Stmt := topS 5
theorem sc_neg : FnScope ["a"] ["a"] (defScope st_neg) := ⟨rfl, rfl, rfl, by decide +kernel, rfl, by decide +kernel, by decide +kernel⟩
def b_neg (cl : Fn → List D → M D) : SF :=
  sRet (cTup (cArgs [cK (.str "implies"), cVar 0, cK g_FALSUM]))

abbrev st_verum : Stmt := topS 6
theorem sc_verum : FnScope [] [] (defScope st_verum) := ⟨rfl, rfl, rfl, by decide +kernel, rfl, by decide +kernel, by decide +kernel⟩
def b_verum (cl : Fn → List D → M D) : SF :=
  sRet (cCall (fun ds => if ds.length = 1 then cl .f_neg ds else M.no) (cArgs [cK g_FALSUM]))

abbrev st_dia : Stmt := topS 7
theorem sc_dia : FnScope ["a"] ["a"] (defScope st_dia) := ⟨rfl, rfl, rfl, by decide +kernel, rfl, by decide +kernel, by decide +kernel⟩
def b_dia (cl : Fn → List D → M D) : SF :=
  sRet (cCall (fun ds => if ds.length = 1 then cl .f_neg ds else M.no) (cArgs [cTup (cArgs [cK (.str "box"), cCall (fun ds => if ds.length = 1 then cl .f_neg ds else M.no) (cArgs [cVar 0])])]))

abbrev st_iff : Stmt := topS 8
theorem sc_iff : FnScope ["a", "b"] ["a", "b"] (defScope st_iff) := ⟨rfl, rfl, rfl, by decide +kernel, rfl, by decide +kernel, by decide +kernel⟩
def b_iff (cl : Fn → List D → M D) : SF :=
  sRet (cTup (cArgs [cK (.str "and"), cTup (cArgs [cK (.str "implies"), cVar 0, cVar 1]), cTup (cArgs [cK (.str "implies"), cVar 1, cVar 0])]))

abbrev st_parts : Stmt := topS 9
theorem sc_parts : FnScope ["a"] ["a"] (defScope st_parts) := ⟨rfl, rfl, rfl, by decide +kernel, rfl, by decide +kernel, by decide +kernel⟩
def b_parts (cl : Fn → List D → M D) : SF :=
  sRet (cIf (cTest (cBin gIn (cBin gIx (cVar 0) (cK (.int 0))) (cTup (cArgs [cK (.str "var"), cK (.str "falsum")])))) (cTup (cArgs [])) (cSl (cVar 0) (cPart (cK (.int 1))) (cNoPart)))

abbrev st_height : Stmt := topS 10
theorem sc_height : FnScope ["a", "part"] ["a"] (defScope st_height) := ⟨rfl, rfl, rfl, by decide +kernel, rfl, by decide +kernel, by decide +kernel⟩
def b_height (cl : Fn → List D → M D) : SF :=
  sRet (cBin gAdd (cK (.int 1)) (cMaxD (cComp (.nm 1) [1] (cSeq (cCall (fun ds => if ds.length = 1 then cl .f_parts ds else M.no) (cArgs [cVar 0]))) (cYes) (cCall (fun ds => if ds.length = 1 then cl .f_height ds else M.no) (cArgs [cVar 1])) kStill) (cK (.int 0))))

abbrev st_is_name : Stmt := topS 16
theorem sc_is_name : FnScope ["text", "char"] ["text"] (defScope st_is_name) := ⟨rfl, rfl, rfl, by decide +kernel, rfl, by decide +kernel, by decide +kernel⟩
def b_is_name (cl : Fn → List D → M D) : SF :=
  sSeq (sIf (cOrT (cNotT (cTest (cChain gLe gLe (cK (.int 1)) (cCall (one gLen) (cArgs [cVar 0])) (cK g_MAX_NAME)))) (cTest (cBin gNotIn (cBin gIx (cVar 0) (cK (.int 0))) (cK g_LETTERS)))) (sRet (cK (.bl false))) (sNil))
  (sRet (cBin gEq (cComp (.nm 1) [1] (cSigns (cVar 0)) (cTest (cBin gNotIn (cVar 1) (cBin gAdd (cK g_LETTERS) (cK (.str "0123456789"))))) (cVar 1) kStill) (cLst (cArgs []))))

abbrev st_tokens_of : Stmt := topS 17
theorem sc_tokens_of : FnScope ["text", "found", "at", "end", "fits", "sign"] ["text"] (defScope st_tokens_of) := ⟨rfl, rfl, rfl, by decide +kernel, rfl, by decide +kernel, by decide +kernel⟩
def b_tokens_of (cl : Fn → List D → M D) : SF :=
  sSeq (sSet 1 (cLstM (cArgs [])))
  (sSeq (sSet 2 (cK (.int 0)))
  (sSeq (sWhile 1000000 (cTest (cBin gLt (cVar 2) (cCall (one gLen) (cArgs [cVar 0])))) (sSeq (sIf (cTest (cBin gEq (cBin gIx (cVar 0) (cVar 2)) (cK (.str " ")))) (sSeq (sAug 2 gAddI (cK (.int 1)))
  (sCnt)) (sNil))
  (sSeq (sSet 3 (cVar 2))
  (sSeq (sWhile 1000000 (cAndT (cTest (cBin gLt (cVar 3) (cCall (one gLen) (cArgs [cVar 0])))) (cTest (cBin gIn (cBin gIx (cVar 0) (cVar 3)) (cBin gAdd (cK g_LETTERS) (cK (.str "0123456789")))))) (sAug 3 gAddI (cK (.int 1))))
  (sSeq (sIf (cTest (cBin gGt (cVar 3) (cVar 2))) (sIf (cNotT (cTru (cCall (fun ds => if ds.length = 1 then cl .f_is_name ds else M.no) (cArgs [cSl (cVar 0) (cPart (cVar 2)) (cPart (cVar 3))])))) (sRaise "InvalidText") (sNil)) (sSeq (sSet 4 (cComp (.nm 5) [5] (cSeq (cK g_SIGNS)) (cTru (cStr gStarts (cVar 0) (cArgs [cVar 5, cVar 2]))) (cVar 5) kStill))
  (sSeq (sIf (cTest (cBin gEq (cCall (one gLen) (cArgs [cVar 4])) (cK (.int 0)))) (sRaise "InvalidText") (sNil))
  (sSet 3 (cBin gAdd (cVar 2) (cCall (one gLen) (cArgs [cBin gIx (cVar 4) (cK (.int 0))])))))))
  (sSeq (sExpr (cMl gAppend (cVar 1) (cArgs [cSl (cVar 0) (cPart (cVar 2)) (cPart (cVar 3))])))
  (sSet 2 (cVar 3))))))))
  (sRet (cVar 1))))

abbrev st_checked : Stmt := topS 19
theorem sc_checked : FnScope ["a"] ["a"] (defScope st_checked) := ⟨rfl, rfl, rfl, by decide +kernel, rfl, by decide +kernel, by decide +kernel⟩
def b_checked (cl : Fn → List D → M D) : SF :=
  sSeq (sIf (cTest (cBin gGt (cCall (fun ds => if ds.length = 1 then cl .f_height ds else M.no) (cArgs [cVar 0])) (cK g_MAX_HEIGHT))) (sRaise "InvalidText") (sNil))
  (sRet (cVar 0))

abbrev st_boxed : Stmt := topS 20
theorem sc_boxed : FnScope ["a"] ["a"] (defScope st_boxed) := ⟨rfl, rfl, rfl, by decide +kernel, rfl, by decide +kernel, by decide +kernel⟩
def b_boxed (cl : Fn → List D → M D) : SF :=
  sRet (cTup (cArgs [cK (.str "box"), cVar 0]))

abbrev st_both : Stmt := topS 21
theorem sc_both : FnScope ["a", "b"] ["a", "b"] (defScope st_both) := ⟨rfl, rfl, rfl, by decide +kernel, rfl, by decide +kernel, by decide +kernel⟩
def b_both (cl : Fn → List D → M D) : SF :=
  sRet (cTup (cArgs [cK (.str "and"), cVar 0, cVar 1]))

abbrev st_either : Stmt := topS 22
theorem sc_either : FnScope ["a", "b"] ["a", "b"] (defScope st_either) := ⟨rfl, rfl, rfl, by decide +kernel, rfl, by decide +kernel, by decide +kernel⟩
def b_either (cl : Fn → List D → M D) : SF :=
  sRet (cTup (cArgs [cK (.str "or"), cVar 0, cVar 1]))

abbrev st_implied : Stmt := topS 23
theorem sc_implied : FnScope ["a", "b"] ["a", "b"] (defScope st_implied) := ⟨rfl, rfl, rfl, by decide +kernel, rfl, by decide +kernel, by decide +kernel⟩
def b_implied (cl : Fn → List D → M D) : SF :=
  sRet (cTup (cArgs [cK (.str "implies"), cVar 0, cVar 1]))

abbrev st_parse : Stmt := topS 27
theorem sc_parse : FnScope ["text", "reader", "wants_operand", "token"] ["text"] (defScope st_parse) := ⟨rfl, rfl, rfl, by decide +kernel, rfl, by decide +kernel, by decide +kernel⟩
def b_parse (cl : Fn → List D → M D) : SF :=
  sSeq (sSet 1 (cCall0 (cl .f_Reader)))
  (sSeq (sSet 2 (cK (.bl true)))
  (sSeq (sFor (.nm 3) (cSeq (cCall (fun ds => if ds.length = 1 then cl .f_tokens_of ds else M.no) (cArgs [cVar 0]))) (sIf (cTru (cVar 2)) (sIf (cTest (cTabG t_PREFIXES (cVar 3))) (sSeq (sIf (cTest (cBin gGt (cCall (one gLen) (cArgs [cBin gIx (cBin gIx (cFld "Reader" "frames" (cVar 1)) (cUn gNeg (cK (.int 1)))) (cK (.int 1))])) (cBin gMul (cK (.int 4)) (cK g_MAX_HEIGHT)))) (sRaise "InvalidText") (sNil))
  (sExpr (cMl gAppend (cBin gIx (cBin gIx (cFld "Reader" "frames" (cVar 1)) (cUn gNeg (cK (.int 1)))) (cK (.int 1))) (cArgs [cVar 3])))) (sIf (cTest (cBin gEq (cVar 3) (cK (.str "(")))) (sSeq (sIf (cTest (cBin gGt (cCall (one gLen) (cArgs [cFld "Reader" "frames" (cVar 1)])) (cK g_MAX_HEIGHT))) (sRaise "InvalidText") (sNil))
  (sExpr (cMl gAppend (cFld "Reader" "frames" (cVar 1)) (cArgs [cTup (cArgs [cLstM (cArgs []), cLstM (cArgs [])])])))) (sIf (cOrT (cTest (cTabG t_BINARY (cVar 3))) (cTest (cBin gEq (cVar 3) (cK (.str ")"))))) (sRaise "InvalidText") (sSeq (sExpr (cMeth "Reader" "operand" (fun ds => if ds.length = 2 then cl .f_Reader_operand ds else M.no) (cVar 1) (cArgs [cDGetD (cDisp [((cK (.str "F")), (cK g_FALSUM)), ((cK (.str "T")), (cCall0 (cl .f_verum)))]) (cVar 3) (cTup (cArgs [cK (.str "var"), cVar 3]))])))
  (sSet 2 (cK (.bl false))))))) (sIf (cTest (cBin gEq (cVar 3) (cK (.str ")")))) (sSeq (sIf (cTest (cBin gEq (cCall (one gLen) (cArgs [cFld "Reader" "frames" (cVar 1)])) (cK (.int 1)))) (sRaise "InvalidText") (sNil))
  (sExpr (cMeth "Reader" "operand" (fun ds => if ds.length = 2 then cl .f_Reader_operand ds else M.no) (cVar 1) (cArgs [cMeth "Reader" "close" (fun ds => if ds.length = 1 then cl .f_Reader_close ds else M.no) (cVar 1) (cArgs [])])))) (sIf (cTest (cTabG t_BINARY (cVar 3))) (sSeq (sExpr (cMeth "Reader" "sign" (fun ds => if ds.length = 2 then cl .f_Reader_sign ds else M.no) (cVar 1) (cArgs [cVar 3])))
  (sSet 2 (cK (.bl true)))) (sRaise "InvalidText")))))
  (sSeq (sIf (cOrT (cTru (cVar 2)) (cTest (cBin gGt (cCall (one gLen) (cArgs [cFld "Reader" "frames" (cVar 1)])) (cK (.int 1))))) (sRaise "InvalidText") (sNil))
  (sRet (cMeth "Reader" "close" (fun ds => if ds.length = 1 then cl .f_Reader_close ds else M.no) (cVar 1) (cArgs []))))))

abbrev st_law_pool : Stmt := topS 29
theorem sc_law_pool : FnScope ["_law_script", "_law_salt", "_law_cell"] ["_law_script"] (defScope st_law_pool) := ⟨rfl, rfl, rfl, by decide +kernel, rfl, by decide +kernel, by decide +kernel⟩
def b_law_pool (cl : Fn → List D → M D) : SF :=
  sSeq (sSet 1 (cK (.int 7)))
  (sSeq (sFor (.nm 2) (cSeq (cSl (cVar 0) (cNoPart) (cPart (cK (.int 63))))) (sSet 1 (cBin gMod (cCall (one gInt) (cArgs [cBin gAdd (cBin gMul (cVar 1) (cK (.int 31))) (cVar 2)])) (cK (.int 1000003)))))
  (sRet (cLstM (cArgs [cCall (one gList) (cArgs [cVar 0]), cK (.int 0), cK (.int 0), cK (.int 0), cVar 1]))))

abbrev st_law_spread : Stmt := topS 30
theorem sc_law_spread : FnScope ["_law_cell", "_law_mixed", "_law_total", "_law_k"] ["_law_cell"] (defScope st_law_spread) := ⟨rfl, rfl, rfl, by decide +kernel, rfl, by decide +kernel, by decide +kernel⟩
def b_law_spread (cl : Fn → List D → M D) : SF :=
  sSeq (sSet 1 (cBin gMod (cCall (one gInt) (cArgs [cVar 0])) (cK (.int 2147483647))))
  (sSeq (sSet 2 (cK (.int 1)))
  (sSeq (sFor (.nm 3) (cRng1 (cArgs [cK (.int 4)])) (sSeq (sSet 1 (cBin gMod (cCall (one gInt) (cArgs [cBin gAdd (cBin gAdd (cBin gMul (cVar 1) (cK (.int 48271))) (cK (.int 12345))) (cVar 3)])) (cK (.int 2147483647))))
  (sSet 2 (cBin gAdd (cBin gMul (cVar 2) (cK (.int 2147483647))) (cVar 1)))))
  (sRet (cVar 2))))

abbrev st_law_draw : Stmt := topS 31
theorem sc_law_draw : FnScope ["_law_pool_here", "_law_many", "_law_value", "_law_cell", "_law_mixed"] ["_law_pool_here", "_law_many"] (defScope st_law_draw) := ⟨rfl, rfl, rfl, by decide +kernel, rfl, by decide +kernel, by decide +kernel⟩
def b_law_draw (cl : Fn → List D → M D) : SF :=
  sSeq (sIf (cAndT (cTest (cBin gLe (cBin gIx (cVar 0) (cK (.int 2))) (cK (.int 0)))) (cTest (cBin gLt (cBin gIx (cVar 0) (cK (.int 1))) (cCall (one gLen) (cArgs [cBin gIx (cVar 0) (cK (.int 0))]))))) (sSeq (sSet 3 (cBin gIx (cBin gIx (cVar 0) (cK (.int 0))) (cBin gIx (cVar 0) (cK (.int 1)))))
  (sSeq (sPut (cVar 0) (cK (.int 1)) (cBin gAdd (cBin gIx (cVar 0) (cK (.int 1))) (cK (.int 1))))
  (sSeq (sPut (cVar 0) (cK (.int 2)) (cVar 3))
  (sIf (cTest (cBin gLt (cVar 3) (cK (.int 1000000000000000000)))) (sPut (cVar 0) (cK (.int 2)) (cCall (fun ds => if ds.length = 1 then cl .f_law_spread ds else M.no) (cArgs [cVar 3]))) (sNil))))) (sNil))
  (sSeq (sPut (cVar 0) (cK (.int 3)) (cBin gAdd (cBin gIx (cVar 0) (cK (.int 3))) (cK (.int 1))))
  (sSeq (sIf (cTest (cBin gLe (cBin gIx (cVar 0) (cK (.int 2))) (cK (.int 0)))) (sSeq (sSet 4 (cBin gMod (cCall (one gInt) (cArgs [cBin gAdd (cBin gAdd (cBin gMul (cBin gIx (cVar 0) (cK (.int 4))) (cK (.int 48271))) (cBin gMul (cBin gIx (cVar 0) (cK (.int 3))) (cK (.int 69621)))) (cK (.int 1))])) (cK (.int 2147483647))))
  (sSeq (sSet 4 (cBin gMod (cCall (one gInt) (cArgs [cBin gAdd (cBin gMul (cVar 4) (cK (.int 16807))) (cBin gIx (cVar 0) (cK (.int 3)))])) (cK (.int 2147483629))))
  (sRet (cBin gMod (cBin gDiv (cVar 4) (cK (.int 5))) (cVar 1))))) (sNil))
  (sSeq (sSet 2 (cBin gMod (cCall (one gInt) (cArgs [cBin gIx (cVar 0) (cK (.int 2))])) (cVar 1)))
  (sSeq (sPut (cVar 0) (cK (.int 2)) (cBin gDiv (cBin gIx (cVar 0) (cK (.int 2))) (cVar 1)))
  (sRet (cVar 2))))))

abbrev st_law_same : Stmt := topS 32
theorem sc_law_same : FnScope ["_law_actual", "_law_due", "_law_k"] ["_law_actual", "_law_due"] (defScope st_law_same) := ⟨rfl, rfl, rfl, by decide +kernel, rfl, by decide +kernel, by decide +kernel⟩
def b_law_same (cl : Fn → List D → M D) : SF :=
  sSeq (sIf (cOrT (cTru (cIsi .tup (cVar 1))) (cTru (cIsi .lst (cVar 1)))) (sSeq (sIf (cOrT (cTest (cBin gNe (cIsi .tup (cVar 1)) (cIsi .tup (cVar 0)))) (cTest (cBin gNe (cIsi .lst (cVar 1)) (cIsi .lst (cVar 0))))) (sRet (cK (.bl false))) (sNil))
  (sSeq (sIf (cTest (cBin gNe (cCall (one gLen) (cArgs [cVar 0])) (cCall (one gLen) (cArgs [cVar 1])))) (sRet (cK (.bl false))) (sNil))
  (sSeq (sFor (.nm 2) (cRng1 (cArgs [cCall (one gLen) (cArgs [cVar 1])])) (sIf (cNotT (cTru (cCall (fun ds => if ds.length = 2 then cl .f_law_same ds else M.no) (cArgs [cBin gIx (cVar 0) (cVar 2), cBin gIx (cVar 1) (cVar 2)])))) (sRet (cK (.bl false))) (sNil)))
  (sRet (cK (.bl true)))))) (sNil))
  (sSeq (sIf (cTest (cBin gIsN (cVar 1) (cK .non))) (sRet (cBin gIsN (cVar 0) (cK .non))) (sNil))
  (sSeq (sIf (cTru (cIsi .bl (cVar 1))) (sRet (cAnd (cIsi .bl (cVar 0)) (cBin gEq (cVar 0) (cVar 1)))) (sNil))
  (sSeq (sIf (cTru (cIsi .int (cVar 1))) (sRet (cAnd (cIsi .int (cVar 0)) (cAnd (cNot (cIsi .bl (cVar 0))) (cBin gEq (cVar 0) (cVar 1))))) (sNil))
  (sRet (cAnd (cIsi .str (cVar 0)) (cBin gEq (cVar 0) (cVar 1)))))))

abbrev st_law_not : Stmt := topS 33
theorem sc_law_not : FnScope ["_law_a"] ["_law_a"] (defScope st_law_not) := ⟨rfl, rfl, rfl, by decide +kernel, rfl, by decide +kernel, by decide +kernel⟩
def b_law_not (cl : Fn → List D → M D) : SF :=
  sRet (cTup (cArgs [cK (.str "implies"), cVar 0, cTup (cArgs [cK (.str "falsum")])]))

abbrev st_law : Stmt := topS 34
theorem sc_law : FnScope ["_law_script", "_law_pool_here", "_law_way", "_law_many", "_law_a", "_law_tall", "_law_text", "_law_signs", "_law_sign", "_law_told", "_law_k"] ["_law_script"] (defScope st_law) := ⟨rfl, rfl, rfl, by decide +kernel, rfl, by decide +kernel, by decide +kernel⟩
def b_law (cl : Fn → List D → M D) : SF :=
  sSeq (sSet 1 (cCall (fun ds => if ds.length = 1 then cl .f_law_pool ds else M.no) (cArgs [cVar 0])))
  (sSeq (sSet 2 (cCall (fun ds => if ds.length = 2 then cl .f_law_draw ds else M.no) (cArgs [cVar 1, cK (.int 5)])))
  (sSeq (sSet 3 (cBin gIx (cLst (cArgs [cK (.int 59), cK (.int 60), cK (.int 61), cK (.int 58), cBin gAdd (cK (.int 1)) (cCall (fun ds => if ds.length = 2 then cl .f_law_draw ds else M.no) (cArgs [cVar 1, cK (.int 70)])), cK (.int 20), cBin gAdd (cK (.int 1000)) (cCall (fun ds => if ds.length = 2 then cl .f_law_draw ds else M.no) (cArgs [cVar 1, cK (.int 2000)]))])) (cCall (fun ds => if ds.length = 2 then cl .f_law_draw ds else M.no) (cArgs [cVar 1, cK (.int 7)]))))
  (sSeq (sSet 4 (cTup (cArgs [cK (.str "var"), cK (.str "p")])))
  (sSeq (sSet 5 (cK (.int 1)))
  (sSeq (sSet 6 (cK (.str "p")))
  (sSeq (sIf (cTest (cBin gEq (cVar 2) (cK (.int 0)))) (sSeq (sSet 7 (cComp (.nm 10) [10] (cRng1 (cArgs [cVar 3])) (cYes) (cBin gIx (cLst (cArgs [cK (.str "~"), cK (.str "[]"), cK (.str "<>")])) (cIf (cTest (cBin gLt (cVar 10) (cK (.int 80)))) (cCall (fun ds => if ds.length = 2 then cl .f_law_draw ds else M.no) (cArgs [cVar 1, cK (.int 3)])) (cK (.int 0)))) kStill))
  (sSeq (sSet 6 (cBin gAdd (cJoin (cK (.str "")) (cVar 7)) (cK (.str "p"))))
  (sFor (.nm 8) (cSeq (cSlR (cVar 7) (cPart (cUn gNeg (cK (.int 1)))))) (sSeq (sSet 5 (cBin gAdd (cVar 5) (cIf (cTest (cBin gEq (cVar 8) (cK (.str "<>")))) (cK (.int 3)) (cK (.int 1)))))
  (sIf (cTest (cBin gLe (cVar 5) (cK (.int 60)))) (sSet 4 (cDGet (cDisp [((cK (.str "~")), (cCall (fun ds => if ds.length = 1 then cl .f_law_not ds else M.no) (cArgs [cVar 4]))), ((cK (.str "[]")), (cTup (cArgs [cK (.str "box"), cVar 4]))), ((cK (.str "<>")), (cCall (fun ds => if ds.length = 1 then cl .f_law_not ds else M.no) (cArgs [cTup (cArgs [cK (.str "box"), cCall (fun ds => if ds.length = 1 then cl .f_law_not ds else M.no) (cArgs [cVar 4])])])))]) (cVar 8))) (sNil)))))) (sIf (cTest (cBin gEq (cVar 2) (cK (.int 1)))) (sSeq (sSet 6 (cBin gAdd (cBin gMulS (cK (.str "q -> ")) (cBin gSub (cVar 3) (cK (.int 1)))) (cK (.str "p"))))
  (sSeq (sSet 5 (cVar 3))
  (sFor (.nm 10) (cRng1 (cArgs [cBin gSub (cCall (gMin2) (cArgs [cVar 3, cK (.int 61)])) (cK (.int 1))])) (sSet 4 (cTup (cArgs [cK (.str "implies"), cTup (cArgs [cK (.str "var"), cK (.str "q")]), cVar 4])))))) (sIf (cTest (cBin gLt (cVar 2) (cK (.int 4)))) (sSeq (sSet 8 (cBin gIx (cLst (cArgs [cK (.str "|"), cK (.str "&")])) (cBin gSub (cVar 2) (cK (.int 2)))))
  (sSeq (sSet 6 (cBin gAdd (cK (.str "p")) (cBin gMulS (cBin gAdd (cBin gAdd (cK (.str " ")) (cVar 8)) (cK (.str " q"))) (cBin gSub (cVar 3) (cK (.int 1))))))
  (sSeq (sSet 5 (cVar 3))
  (sFor (.nm 10) (cRng1 (cArgs [cBin gSub (cCall (gMin2) (cArgs [cVar 3, cK (.int 61)])) (cK (.int 1))])) (sSet 4 (cTup (cArgs [cDGet (cDisp [((cK (.str "|")), (cK (.str "or"))), ((cK (.str "&")), (cK (.str "and")))]) (cVar 8), cVar 4, cTup (cArgs [cK (.str "var"), cK (.str "q")])]))))))) (sSeq (sSet 6 (cBin gAdd (cBin gAdd (cBin gMulS (cK (.str "(")) (cVar 3)) (cK (.str "p"))) (cBin gMulS (cK (.str ")")) (cVar 3))))
  (sSet 5 (cIf (cTest (cBin gGt (cVar 3) (cK (.int 60)))) (cK (.int 61)) (cK (.int 1))))))))
  (sSeq (sTryM [(subO csL subL "InvalidText", sRet (cBin gGt (cVar 5) (cK (.int 60))))] (sSet 9 (cCall (fun ds => if ds.length = 1 then cl .f_parse ds else M.no) (cArgs [cVar 6]))))
  (sRet (cAnd (cBin gLe (cVar 5) (cK (.int 60))) (cAnd (cCall (fun ds => if ds.length = 2 then cl .f_law_same ds else M.no) (cArgs [cVar 9, cVar 4])) (cCall (fun ds => if ds.length = 2 then cl .f_law_same ds else M.no) (cArgs [cCall (fun ds => if ds.length = 1 then cl .f_height ds else M.no) (cArgs [cVar 9]), cVar 5]))))))))))))

abbrev st_Reader_init : Stmt := inClass (topS 18) 0
theorem sc_Reader_init : FnScope ["self"] ["self"] (defScope st_Reader_init) := ⟨rfl, rfl, rfl, by decide +kernel, rfl, by decide +kernel, by decide +kernel⟩
def b_Reader_init (cl : Fn → List D → M D) : SF :=
  sSetF "Reader" "frames" (cVar 0) (cLstM (cArgs [cTup (cArgs [cLstM (cArgs []), cLstM (cArgs [])])]))

abbrev st_Reader_operand : Stmt := inClass (topS 18) 1
theorem sc_Reader_operand : FnScope ["self", "a", "operands", "signs"] ["self", "a"] (defScope st_Reader_operand) := ⟨rfl, rfl, rfl, by decide +kernel, rfl, by decide +kernel, by decide +kernel⟩
def b_Reader_operand (cl : Fn → List D → M D) : SF :=
  sSeq (sAsg (.tp [2, 3]) (cBin gIx (cFld "Reader" "frames" (cVar 0)) (cUn gNeg (cK (.int 1)))))
  (sSeq (sWhile 1000000 (cAndT (cTest (cBin gGt (cCall (one gLen) (cArgs [cVar 3])) (cK (.int 0)))) (cTest (cTabG t_PREFIXES (cBin gIx (cVar 3) (cUn gNeg (cK (.int 1))))))) (sSet 1 (cCall (fun ds => if ds.length = 1 then cl .f_checked ds else M.no) (cArgs [cCallE [("neg", 1, cl .f_neg), ("boxed", 1, cl .f_boxed), ("dia", 1, cl .f_dia)] (cTab t_PREFIXES (cMl0 gPop (cVar 3))) (cArgs [cVar 1])]))))
  (sExpr (cMl gAppend (cVar 2) (cArgs [cVar 1]))))

abbrev st_Reader_reduce : Stmt := inClass (topS 18) 2
theorem sc_Reader_reduce : FnScope ["self", "level", "operands", "signs", "second", "first"] ["self", "level"] (defScope st_Reader_reduce) := ⟨rfl, rfl, rfl, by decide +kernel, rfl, by decide +kernel, by decide +kernel⟩
def b_Reader_reduce (cl : Fn → List D → M D) : SF :=
  sSeq (sAsg (.tp [2, 3]) (cBin gIx (cFld "Reader" "frames" (cVar 0)) (cUn gNeg (cK (.int 1)))))
  (sWhile 1000000 (cAndT (cTest (cBin gGt (cCall (one gLen) (cArgs [cVar 3])) (cK (.int 0)))) (cTest (cBin gGe (cTab t_LEVELS (cBin gIx (cVar 3) (cUn gNeg (cK (.int 1))))) (cVar 1)))) (sSeq (sSet 4 (cMl0 gPop (cVar 2)))
  (sSeq (sSet 5 (cMl0 gPop (cVar 2)))
  (sExpr (cMl gAppend (cVar 2) (cArgs [cCall (fun ds => if ds.length = 1 then cl .f_checked ds else M.no) (cArgs [cCallE [("iff", 2, cl .f_iff), ("implied", 2, cl .f_implied), ("either", 2, cl .f_either), ("both", 2, cl .f_both)] (cTab t_BINARY (cMl0 gPop (cVar 3))) (cArgs [cVar 5, cVar 4])])]))))))

abbrev st_Reader_sign : Stmt := inClass (topS 18) 3
theorem sc_Reader_sign : FnScope ["self", "token", "level", "signs"] ["self", "token"] (defScope st_Reader_sign) := ⟨rfl, rfl, rfl, by decide +kernel, rfl, by decide +kernel, by decide +kernel⟩
def b_Reader_sign (cl : Fn → List D → M D) : SF :=
  sSeq (sSet 2 (cTab t_LEVELS (cVar 1)))
  (sSeq (sSet 3 (cBin gIx (cBin gIx (cFld "Reader" "frames" (cVar 0)) (cUn gNeg (cK (.int 1)))) (cK (.int 1))))
  (sSeq (sIf (cAndT (cTest (cBin gEq (cVar 1) (cK (.str "<->")))) (cTest (cBin gIn (cK (.str "<->")) (cVar 3)))) (sRaise "InvalidText") (sNil))
  (sSeq (sExpr (cMeth "Reader" "reduce" (fun ds => if ds.length = 2 then cl .f_Reader_reduce ds else M.no) (cVar 0) (cArgs [cIf (cTest (cBin gEq (cVar 1) (cK (.str "->")))) (cBin gAdd (cVar 2) (cK (.int 1))) (cVar 2)])))
  (sExpr (cMl gAppend (cVar 3) (cArgs [cVar 1]))))))

abbrev st_Reader_close : Stmt := inClass (topS 18) 4
theorem sc_Reader_close : FnScope ["self"] ["self"] (defScope st_Reader_close) := ⟨rfl, rfl, rfl, by decide +kernel, rfl, by decide +kernel, by decide +kernel⟩
def b_Reader_close (cl : Fn → List D → M D) : SF :=
  sSeq (sExpr (cMeth "Reader" "reduce" (fun ds => if ds.length = 2 then cl .f_Reader_reduce ds else M.no) (cVar 0) (cArgs [cK (.int 0)])))
  (sRet (cBin gIx (cBin gIx (cMl0 gPop (cFld "Reader" "frames" (cVar 0))) (cK (.int 0))) (cK (.int 0))))

/-- one turn of the table -/
def body (cl : Fn → List D → M D) : Fn → List D → M D
  | .f_neg => runDef 1 1 (b_neg cl)
  | .f_verum => runDef 0 0 (b_verum cl)
  | .f_dia => runDef 1 1 (b_dia cl)
  | .f_iff => runDef 2 2 (b_iff cl)
  | .f_parts => runDef 1 1 (b_parts cl)
  | .f_height => runDef 1 2 (b_height cl)
  | .f_is_name => runDef 1 2 (b_is_name cl)
  | .f_tokens_of => pureD (runDef 1 6 (b_tokens_of cl))
  | .f_checked => runDef 1 1 (b_checked cl)
  | .f_boxed => runDef 1 1 (b_boxed cl)
  | .f_both => runDef 2 2 (b_both cl)
  | .f_either => runDef 2 2 (b_either cl)
  | .f_implied => runDef 2 2 (b_implied cl)
  | .f_parse => pureD (runDef 1 4 (b_parse cl))
  | .f_law_pool => runDef 1 3 (b_law_pool cl)
  | .f_law_spread => runDef 1 4 (b_law_spread cl)
  | .f_law_draw => runDef 2 5 (b_law_draw cl)
  | .f_law_same => runDef 2 3 (b_law_same cl)
  | .f_law_not => runDef 1 1 (b_law_not cl)
  | .f_law => runDef 1 11 (b_law cl)
  | .f_Reader_init => runDef 1 1 (b_Reader_init cl)
  | .f_Reader_operand => runDef 2 4 (b_Reader_operand cl)
  | .f_Reader_reduce => runDef 2 6 (b_Reader_reduce cl)
  | .f_Reader_sign => runDef 2 4 (b_Reader_sign cl)
  | .f_Reader_close => runDef 1 1 (b_Reader_close cl)
  | .f_Reader => mkD "Reader" (cl .f_Reader_init)

def ev : Nat → Fn → List D → M D
  | 0 => fun _ _ => M.no
  | n + 1 => body (ev n)

theorem q_neg {n : Nat} : ev (n + 1) .f_neg = runDef 1 1 (b_neg (ev n)) := rfl
theorem q_verum {n : Nat} : ev (n + 1) .f_verum = runDef 0 0 (b_verum (ev n)) := rfl
theorem q_dia {n : Nat} : ev (n + 1) .f_dia = runDef 1 1 (b_dia (ev n)) := rfl
theorem q_iff {n : Nat} : ev (n + 1) .f_iff = runDef 2 2 (b_iff (ev n)) := rfl
theorem q_is_name {n : Nat} : ev (n + 1) .f_is_name = runDef 1 2 (b_is_name (ev n)) := rfl
theorem q_tokens_of {n : Nat} : ev (n + 1) .f_tokens_of = pureD (runDef 1 6 (b_tokens_of (ev n))) := rfl
theorem q_checked {n : Nat} : ev (n + 1) .f_checked = runDef 1 1 (b_checked (ev n)) := rfl
theorem q_boxed {n : Nat} : ev (n + 1) .f_boxed = runDef 1 1 (b_boxed (ev n)) := rfl
theorem q_both {n : Nat} : ev (n + 1) .f_both = runDef 2 2 (b_both (ev n)) := rfl
theorem q_either {n : Nat} : ev (n + 1) .f_either = runDef 2 2 (b_either (ev n)) := rfl
theorem q_implied {n : Nat} : ev (n + 1) .f_implied = runDef 2 2 (b_implied (ev n)) := rfl
theorem q_parse {n : Nat} : ev (n + 1) .f_parse = pureD (runDef 1 4 (b_parse (ev n))) := rfl
theorem q_law_not {n : Nat} : ev (n + 1) .f_law_not = runDef 1 1 (b_law_not (ev n)) := rfl
theorem q_law {n : Nat} : ev (n + 1) .f_law = runDef 1 11 (b_law (ev n)) := rfl
theorem q_Reader_init {n : Nat} : ev (n + 1) .f_Reader_init = runDef 1 1 (b_Reader_init (ev n)) := rfl
theorem q_Reader_operand {n : Nat} : ev (n + 1) .f_Reader_operand = runDef 2 4 (b_Reader_operand (ev n)) := rfl
theorem q_Reader_reduce {n : Nat} : ev (n + 1) .f_Reader_reduce = runDef 2 6 (b_Reader_reduce (ev n)) := rfl
theorem q_Reader_sign {n : Nat} : ev (n + 1) .f_Reader_sign = runDef 2 4 (b_Reader_sign (ev n)) := rfl
theorem q_Reader_close {n : Nat} : ev (n + 1) .f_Reader_close = runDef 1 1 (b_Reader_close (ev n)) := rfl
theorem q_Reader {n : Nat} : ev (n + 1) .f_Reader = mkD "Reader" ((ev n) .f_Reader_init) := rfl

theorem e_pool {n : Nat} (h : 0 < n) : PoolSpec (ev n .f_law_pool) := by
  obtain ⟨m, rfl⟩ : ∃ m, n = m + 1 := ⟨n - 1, by omega⟩
  exact Lw.pool_ok

theorem e_spread {n : Nat} (h : 0 < n) : SpreadSpec (ev n .f_law_spread) := by
  obtain ⟨m, rfl⟩ : ∃ m, n = m + 1 := ⟨n - 1, by omega⟩
  exact Lw.spread_ok

theorem e_draw {n : Nat} (h : 1 < n) : DrawSpec (ev n .f_law_draw) := by
  obtain ⟨m, rfl⟩ : ∃ m, n = m + 1 := ⟨n - 1, by omega⟩
  exact Lw.draw_ok (e_spread (by omega))

theorem e_same : ∀ {d n : Nat}, d < n → SameSpec d (ev n .f_law_same)
  | d, n + 1, h => by
    have ih : ∀ d', d = d' + 1 → SameSpec d' (ev n .f_law_same) := fun d' e => e_same (by omega)
    exact Lw.same_ok (c := ev n .f_law_same) ih
end K
namespace K
open PySem PySem.Spec L2 Fx
structure Bt (K : PySem.W.Frag) (mg : Str → Option Value) (w : World) : Prop where
  m_bool : mg "bool" = none
  m_int : mg "int" = none
  m_isinstance : mg "isinstance" = none
  m_len : mg "len" = none
  m_list : mg "list" = none
  m_max : mg "max" = none
  m_min : mg "min" = none
  m_range : mg "range" = none
  m_str : mg "str" = none
  m_tuple : mg "tuple" = none
  g_FALSUM : GK ⟨K, mg, w⟩ "FALSUM" g_FALSUM
  g_LETTERS : GK ⟨K, mg, w⟩ "LETTERS" g_LETTERS
  g_MAX_HEIGHT : GK ⟨K, mg, w⟩ "MAX_HEIGHT" g_MAX_HEIGHT
  g_MAX_NAME : GK ⟨K, mg, w⟩ "MAX_NAME" g_MAX_NAME
  g_SIGNS : GK ⟨K, mg, w⟩ "SIGNS" g_SIGNS
  t_BINARY : TabG ⟨K, mg, w⟩ "BINARY" t_BINARY
  t_LEVELS : TabG ⟨K, mg, w⟩ "LEVELS" t_LEVELS
  t_PREFIXES : TabG ⟨K, mg, w⟩ "PREFIXES" t_PREFIXES
  xt : ExT K mg csL usL subL
  k_Reader : ClX K mg "Reader" ["frames"]

structure Cs (P : Program) (w : World) (K : PySem.W.Frag) (mg : Str → Option Value) (base : Heap) (n : Nat) (cl : Fn → List D → M D) : Prop where
  c_f_neg : CallOk P w K mg base n "neg" (cl .f_neg) 1
  c_f_verum : CallOk P w K mg base n "verum" (cl .f_verum) 0
  c_f_dia : CallOk P w K mg base n "dia" (cl .f_dia) 1
  c_f_iff : CallOk P w K mg base n "iff" (cl .f_iff) 2
  c_f_parts : CallOk P w K mg base n "parts" (cl .f_parts) 1
  c_f_height : CallOk P w K mg base n "height" (cl .f_height) 1
  c_f_is_name : CallOk P w K mg base n "is_name" (cl .f_is_name) 1
  c_f_tokens_of : CallOk P w K mg base n "tokens_of" (cl .f_tokens_of) 1
  c_f_checked : CallOk P w K mg base n "checked" (cl .f_checked) 1
  c_f_boxed : CallOk P w K mg base n "boxed" (cl .f_boxed) 1
  c_f_both : CallOk P w K mg base n "both" (cl .f_both) 2
  c_f_either : CallOk P w K mg base n "either" (cl .f_either) 2
  c_f_implied : CallOk P w K mg base n "implied" (cl .f_implied) 2
  c_f_parse : CallOk P w K mg base n "parse" (cl .f_parse) 1
  c_f_law_pool : CallOk P w K mg base n "_law_pool" (cl .f_law_pool) 1
  c_f_law_spread : CallOk P w K mg base n "_law_spread" (cl .f_law_spread) 1
  c_f_law_draw : CallOk P w K mg base n "_law_draw" (cl .f_law_draw) 2
  c_f_law_same : CallOk P w K mg base n "_law_same" (cl .f_law_same) 2
  c_f_law_not : CallOk P w K mg base n "_law_not" (cl .f_law_not) 1
  c_f_law : CallOk P w K mg base n "law" (cl .f_law) 1
  c_f_Reader_init : InitOk P w K mg base n "Reader" (cl .f_Reader_init) 0
  c_f_Reader_operand : MethOk P w K mg base n "Reader" "operand" (cl .f_Reader_operand) 2
  c_f_Reader_reduce : MethOk P w K mg base n "Reader" "reduce" (cl .f_Reader_reduce) 2
  c_f_Reader_sign : MethOk P w K mg base n "Reader" "sign" (cl .f_Reader_sign) 2
  c_f_Reader_close : MethOk P w K mg base n "Reader" "close" (cl .f_Reader_close) 1
  c_f_Reader : MakeOk P w K mg base n "Reader" (cl .f_Reader) 0

section
variable {P : Program} {w : World} {K : PySem.W.Frag} {mg : Str → Option Value} {base : Heap} {n : Nat} {cl : Fn → List D → M D}

theorem ok_neg (B : Bt K mg w) (cs : Cs P w K mg base n cl) {a : Addr} {fd : FuncData} (F : Fun K "neg" "neg" st_neg a fd) : FnOk P w K mg base (L2.CX P w) (n + 1) a fd ["a"] (spF ⟨K, mg, w⟩ (runDef 1 1 (b_neg cl)) 1) :=
  def_ok (ps := ["a"]) F sc_neg fun cdv A outer s H E hr => by
    unfold b_neg
    exact (fs_one (f_ret (pf_tup (pfa_cons pf_str (pfa_cons (pf_var 0) (pfa_cons (pf_glob rfl B.g_FALSUM) pfa_nil))))))

theorem ok_verum (B : Bt K mg w) (cs : Cs P w K mg base n cl) {a : Addr} {fd : FuncData} (F : Fun K "verum" "verum" st_verum a fd) : FnOk P w K mg base (L2.CX P w) (n + 1) a fd [] (spF ⟨K, mg, w⟩ (runDef 0 0 (b_verum cl)) 0) :=
  def_ok (ps := []) F sc_verum fun cdv A outer s H E hr => by
    unfold b_verum
    exact (fs_one (f_ret (pf_call cs.c_f_neg hr (pass_of (takes_of rfl rfl rfl rfl)) rfl (pfa_cons (pf_glob rfl B.g_FALSUM) pfa_nil))))

theorem ok_dia (B : Bt K mg w) (cs : Cs P w K mg base n cl) {a : Addr} {fd : FuncData} (F : Fun K "dia" "dia" st_dia a fd) : FnOk P w K mg base (L2.CX P w) (n + 1) a fd ["a"] (spF ⟨K, mg, w⟩ (runDef 1 1 (b_dia cl)) 1) :=
  def_ok (ps := ["a"]) F sc_dia fun cdv A outer s H E hr => by
    unfold b_dia
    exact (fs_one (f_ret (pf_call cs.c_f_neg hr (pass_of (takes_of rfl rfl rfl rfl)) rfl (pfa_cons (pf_tup (pfa_cons pf_str (pfa_cons (pf_call cs.c_f_neg hr (pass_of (takes_of rfl rfl rfl rfl)) rfl (pfa_cons (pf_var 0) pfa_nil)) pfa_nil))) pfa_nil))))

theorem ok_iff (B : Bt K mg w) (cs : Cs P w K mg base n cl) {a : Addr} {fd : FuncData} (F : Fun K "iff" "iff" st_iff a fd) : FnOk P w K mg base (L2.CX P w) (n + 1) a fd ["a", "b"] (spF ⟨K, mg, w⟩ (runDef 2 2 (b_iff cl)) 2) :=
  def_ok (ps := ["a", "b"]) F sc_iff fun cdv A outer s H E hr => by
    unfold b_iff
    exact (fs_one (f_ret (pf_tup (pfa_cons pf_str (pfa_cons (pf_tup (pfa_cons pf_str (pfa_cons (pf_var 0) (pfa_cons (pf_var 1) pfa_nil)))) (pfa_cons (pf_tup (pfa_cons pf_str (pfa_cons (pf_var 1) (pfa_cons (pf_var 0) pfa_nil)))) pfa_nil))))))

theorem ok_parts (B : Bt K mg w) (cs : Cs P w K mg base n cl) {a : Addr} {fd : FuncData} (F : Fun K "parts" "parts" st_parts a fd) : FnOk P w K mg base (L2.CX P w) (n + 1) a fd ["a"] (spF ⟨K, mg, w⟩ (runDef 1 1 (b_parts cl)) 1) :=
  def_ok (ps := ["a"]) F sc_parts fun cdv A outer s H E hr => by
    unfold b_parts
    exact (fs_one (f_ret (pf_if (pt_cmpF (opf_in (hu65 hr)) ok2_in (pf_ix (pf_var 0) pf_int (fun _ _ => rfl)) (pf_tup (pfa_cons pf_str (pfa_cons pf_str pfa_nil))) (by rfl)) (pf_tup pfa_nil) (pf_sl (pf_var 0) (pfo_some pf_int) pfo_none))))

theorem ok_height (B : Bt K mg w) (cs : Cs P w K mg base n cl) {a : Addr} {fd : FuncData} (F : Fun K "height" "height" st_height a fd) : FnOk P w K mg base (L2.CX P w) (n + 1) a fd ["a"] (spF ⟨K, mg, w⟩ (runDef 1 2 (b_height cl)) 1) :=
  def_ok (ps := ["a"]) F sc_height fun cdv A outer s H E hr => by
    unfold b_height
    exact (fs_one (f_ret (pf_op opf_add ok2_add pf_int (pf_maxD rfl (hu65 hr) rfl B.m_max (pf_lc (own := [("part", 1)]) (t := (.nm 1)) kStill_ok (by decide) rfl sc_height.nd (pfi_seq (pf_call cs.c_f_parts hr (pass_of (takes_of rfl rfl rfl rfl)) rfl (pfa_cons (pf_var 0) pfa_nil))) (blkOk_by (N := ["a", "part"]) (sc := defScope st_height) (by decide +kernel)) (fun _ _ _ _ _ => (pg_n 1 sc_height.nd)) (fun _ _ _ _ _ => fts_nil) (fun _ _ _ _ _ => (pf_call cs.c_f_height hr pass_0 rfl (pfa_cons (pf_var 1) pfa_nil)))) pf_int))))

theorem ok_is_name (B : Bt K mg w) (cs : Cs P w K mg base n cl) {a : Addr} {fd : FuncData} (F : Fun K "is_name" "is_name" st_is_name a fd) : FnOk P w K mg base (L2.CX P w) (n + 1) a fd ["text"] (spF ⟨K, mg, w⟩ (runDef 1 2 (b_is_name cl)) 1) :=
  def_ok (ps := ["text"]) F sc_is_name fun cdv A outer s H E hr => by
    unfold b_is_name
    exact (fs_cons (f_if (PW.pt (pw_orF (pt_notF (pt_chainF op_le ok2_le op_le ok2_le pf_int (pf_callB cf_len (okL_one ok_len) rfl B.m_len PySem.boot_len (pfa_cons (pf_var 0) pfa_nil)) (pf_glob rfl B.g_MAX_NAME))) (pw_or1F (pt_cmpF (opf_notIn (hu65 hr)) ok2_notIn (pf_ix (pf_var 0) pf_int (fun _ _ => rfl)) (pf_glob rfl B.g_LETTERS) (by rfl))))) (fs_one (f_ret pf_bl)) fs_nil)
    (fs_one (f_ret (pf_cmp (op_eqD hr.units) ok2_eq (pf_lc (own := [("char", 1)]) (t := (.nm 1)) kStill_ok (by decide) rfl sc_is_name.nd (pfi_str (pf_var 0)) (blkOk_by (N := ["text", "char"]) (sc := defScope st_is_name) (by decide +kernel)) (fun _ _ _ _ _ => (pg_n 1 sc_is_name.nd)) (fun _ _ _ _ _ => (fts_one (pt_cmpF (opf_notIn (hu65 hr)) ok2_notIn (pf_var 1) (pf_op opf_add ok2_add (pf_glob rfl B.g_LETTERS) pf_str) (by rfl)))) (fun _ _ _ _ _ => (pf_var 1))) (pf_lst pfa_nil) (nomark _)))))

theorem ok_tokens_of (B : Bt K mg w) (cs : Cs P w K mg base n cl) {a : Addr} {fd : FuncData} (F : Fun K "tokens_of" "tokens_of" st_tokens_of a fd) : FnOk P w K mg base (L2.CX P w) (n + 1) a fd ["text"] (spF ⟨K, mg, w⟩ (runDef 1 6 (b_tokens_of cl)) 1) :=
  def_ok (ps := ["text"]) F sc_tokens_of fun cdv A outer s H E hr => by
    unfold b_tokens_of
    exact (fs_cons (f_set 1 sc_tokens_of.nd (pf_lstM pfa_nil))
    (fs_cons (f_set 2 sc_tokens_of.nd pf_int)
    (fs_cons (f_while (passes_of rfl) (pt_cmpF op_lt ok2_lt (pf_var 2) (pf_callB cf_len (okL_one ok_len) rfl B.m_len PySem.boot_len (pfa_cons (pf_var 0) pfa_nil)) (nomark _)) (fs_cons (f_if (pt_cmpF (op_eqD hr.units) ok2_eq (pf_ix (pf_var 0) (pf_var 2) (fun _ _ => rfl)) pf_str (nomark _)) (fs_cons (f_aug 2 sc_tokens_of.nd iop_add ok2_addI pf_int)
    (fs_one f_cnt)) fs_nil)
    (fs_cons (f_set 3 sc_tokens_of.nd (pf_var 2))
    (fs_cons (f_while (passes_of rfl) (PW.pt (pw_andF (pt_cmpF op_lt ok2_lt (pf_var 3) (pf_callB cf_len (okL_one ok_len) rfl B.m_len PySem.boot_len (pfa_cons (pf_var 0) pfa_nil)) (nomark _)) (pw_and1F (pt_cmpF (opf_in (hu65 hr)) ok2_in (pf_ix (pf_var 0) (pf_var 3) (fun _ _ => rfl)) (pf_op opf_add ok2_add (pf_glob rfl B.g_LETTERS) pf_str) (by rfl))))) (fs_one (f_aug 3 sc_tokens_of.nd iop_add ok2_addI pf_int)))
    (fs_cons (f_if (pt_cmpF op_gt ok2_gt (pf_var 3) (pf_var 2) (nomark _)) (fs_one (f_if (pt_notF (pt_tru (pf_call cs.c_f_is_name hr (pass_of (takes_of rfl rfl rfl rfl)) rfl (pfa_cons (pf_sl (pf_var 0) (pfo_some (pf_var 2)) (pfo_some (pf_var 3))) pfa_nil)))) (fs_one (f_raise (B.xt.ad "InvalidText" (by decide +kernel)).1 rfl (takes_of rfl rfl rfl rfl) rfl)) fs_nil)) (fs_cons (f_setLc 4 (own := [("sign", 5)]) (t := (.nm 5)) kStill_ok (by decide) rfl sc_tokens_of.nd (sw_true rfl rfl rfl (by decide +kernel)) (pfi_seq (pf_glob rfl B.g_SIGNS)) (blkOk_by (N := ["text", "found", "at", "end", "fits", "sign"]) (sc := defScope st_tokens_of) (by decide +kernel)) (fun _ _ _ _ _ => (pg_n 5 sc_tokens_of.nd)) (fun _ _ _ _ _ => (fts_one (pt_tru (pf_starts (pf_var 0) (pfa_cons (pf_var 5) (pfa_cons (pf_var 2) pfa_nil)))))) (fun _ _ _ _ _ => (pf_var 5)))
    (fs_cons (f_if (pt_cmpF (op_eqD hr.units) ok2_eq (pf_callB cf_len (okL_one ok_len) rfl B.m_len PySem.boot_len (pfa_cons (pf_var 4) pfa_nil)) pf_int (nomark _)) (fs_one (f_raise (B.xt.ad "InvalidText" (by decide +kernel)).1 rfl (takes_of rfl rfl rfl rfl) rfl)) fs_nil)
    (fs_one (f_set 3 sc_tokens_of.nd (pf_op opf_add ok2_add (pf_var 2) (pf_callB cf_len (okL_one ok_len) rfl B.m_len PySem.boot_len (pfa_cons (pf_ix (pf_var 4) pf_int (fun _ _ => rfl)) pfa_nil))))))))
    (fs_cons (f_expr (pf_append (pf_var 1) (pfa_cons (pf_sl (pf_var 0) (pfo_some (pf_var 2)) (pfo_some (pf_var 3))) pfa_nil)))
    (fs_one (f_set 2 sc_tokens_of.nd (pf_var 3)))))))))
    (fs_one (f_ret (pf_var 1))))))

theorem ok_checked (B : Bt K mg w) (cs : Cs P w K mg base n cl) {a : Addr} {fd : FuncData} (F : Fun K "checked" "checked" st_checked a fd) : FnOk P w K mg base (L2.CX P w) (n + 1) a fd ["a"] (spF ⟨K, mg, w⟩ (runDef 1 1 (b_checked cl)) 1) :=
  def_ok (ps := ["a"]) F sc_checked fun cdv A outer s H E hr => by
    unfold b_checked
    exact (fs_cons (f_if (pt_cmpF op_gt ok2_gt (pf_call cs.c_f_height hr (pass_of (takes_of rfl rfl rfl rfl)) rfl (pfa_cons (pf_var 0) pfa_nil)) (pf_glob rfl B.g_MAX_HEIGHT) (nomark _)) (fs_one (f_raise (B.xt.ad "InvalidText" (by decide +kernel)).1 rfl (takes_of rfl rfl rfl rfl) rfl)) fs_nil)
    (fs_one (f_ret (pf_var 0))))

theorem ok_boxed (B : Bt K mg w) (cs : Cs P w K mg base n cl) {a : Addr} {fd : FuncData} (F : Fun K "boxed" "boxed" st_boxed a fd) : FnOk P w K mg base (L2.CX P w) (n + 1) a fd ["a"] (spF ⟨K, mg, w⟩ (runDef 1 1 (b_boxed cl)) 1) :=
  def_ok (ps := ["a"]) F sc_boxed fun cdv A outer s H E hr => by
    unfold b_boxed
    exact (fs_one (f_ret (pf_tup (pfa_cons pf_str (pfa_cons (pf_var 0) pfa_nil)))))

theorem ok_both (B : Bt K mg w) (cs : Cs P w K mg base n cl) {a : Addr} {fd : FuncData} (F : Fun K "both" "both" st_both a fd) : FnOk P w K mg base (L2.CX P w) (n + 1) a fd ["a", "b"] (spF ⟨K, mg, w⟩ (runDef 2 2 (b_both cl)) 2) :=
  def_ok (ps := ["a", "b"]) F sc_both fun cdv A outer s H E hr => by
    unfold b_both
    exact (fs_one (f_ret (pf_tup (pfa_cons pf_str (pfa_cons (pf_var 0) (pfa_cons (pf_var 1) pfa_nil))))))

theorem ok_either (B : Bt K mg w) (cs : Cs P w K mg base n cl) {a : Addr} {fd : FuncData} (F : Fun K "either" "either" st_either a fd) : FnOk P w K mg base (L2.CX P w) (n + 1) a fd ["a", "b"] (spF ⟨K, mg, w⟩ (runDef 2 2 (b_either cl)) 2) :=
  def_ok (ps := ["a", "b"]) F sc_either fun cdv A outer s H E hr => by
    unfold b_either
    exact (fs_one (f_ret (pf_tup (pfa_cons pf_str (pfa_cons (pf_var 0) (pfa_cons (pf_var 1) pfa_nil))))))

theorem ok_implied (B : Bt K mg w) (cs : Cs P w K mg base n cl) {a : Addr} {fd : FuncData} (F : Fun K "implied" "implied" st_implied a fd) : FnOk P w K mg base (L2.CX P w) (n + 1) a fd ["a", "b"] (spF ⟨K, mg, w⟩ (runDef 2 2 (b_implied cl)) 2) :=
  def_ok (ps := ["a", "b"]) F sc_implied fun cdv A outer s H E hr => by
    unfold b_implied
    exact (fs_one (f_ret (pf_tup (pfa_cons pf_str (pfa_cons (pf_var 0) (pfa_cons (pf_var 1) pfa_nil))))))

theorem ok_parse (B : Bt K mg w) (cs : Cs P w K mg base n cl) {a : Addr} {fd : FuncData} (F : Fun K "parse" "parse" st_parse a fd) : FnOk P w K mg base (L2.CX P w) (n + 1) a fd ["text"] (spF ⟨K, mg, w⟩ (runDef 1 4 (b_parse cl)) 1) :=
  def_ok (ps := ["text"]) F sc_parse fun cdv A outer s H E hr => by
    unfold b_parse
    exact (fs_cons (f_set 1 sc_parse.nd (pf_make0 cs.c_f_Reader hr (pass_of (takes_of rfl rfl rfl rfl)) rfl))
    (fs_cons (f_set 2 sc_parse.nd pf_bl)
    (fs_cons (f_for (t := (.nm 3)) (passes_of rfl) rfl (pfi_seq (pf_call cs.c_f_tokens_of hr (pass_of (takes_of rfl rfl rfl rfl)) rfl (pfa_cons (pf_var 0) pfa_nil))) (pg_n 3 sc_parse.nd) (fs_one (f_if (pt_tru (pf_var 2)) (fs_one (f_if (pt_tabG B.t_PREFIXES rfl (pf_var 3)) (fs_cons (f_if (pt_cmpF op_gt ok2_gt (pf_callB cf_len (okL_one ok_len) rfl B.m_len PySem.boot_len (pfa_cons (pf_ix (pf_ix (pf_fld B.k_Reader (pf_var 1)) (pf_neg pf_int) (fun _ _ => rfl)) pf_int (fun _ _ => rfl)) pfa_nil)) (pf_op op_mul ok2_mul pf_int (pf_glob rfl B.g_MAX_HEIGHT)) (nomark _)) (fs_one (f_raise (B.xt.ad "InvalidText" (by decide +kernel)).1 rfl (takes_of rfl rfl rfl rfl) rfl)) fs_nil)
    (fs_one (f_expr (pf_append (pf_ix (pf_ix (pf_fld B.k_Reader (pf_var 1)) (pf_neg pf_int) (fun _ _ => rfl)) pf_int (fun _ _ => rfl)) (pfa_cons (pf_var 3) pfa_nil))))) (fs_one (f_if (pt_cmpF (op_eqD hr.units) ok2_eq (pf_var 3) pf_str (nomark _)) (fs_cons (f_if (pt_cmpF op_gt ok2_gt (pf_callB cf_len (okL_one ok_len) rfl B.m_len PySem.boot_len (pfa_cons (pf_fld B.k_Reader (pf_var 1)) pfa_nil)) (pf_glob rfl B.g_MAX_HEIGHT) (nomark _)) (fs_one (f_raise (B.xt.ad "InvalidText" (by decide +kernel)).1 rfl (takes_of rfl rfl rfl rfl) rfl)) fs_nil)
    (fs_one (f_expr (pf_append (pf_fld B.k_Reader (pf_var 1)) (pfa_cons (pf_tup (pfa_cons (pf_lstM pfa_nil) (pfa_cons (pf_lstM pfa_nil) pfa_nil))) pfa_nil))))) (fs_one (f_if (PW.pt (pw_orF (pt_tabG B.t_BINARY rfl (pf_var 3)) (pw_or1F (pt_cmpF (op_eqD hr.units) ok2_eq (pf_var 3) pf_str (nomark _))))) (fs_one (f_raise (B.xt.ad "InvalidText" (by decide +kernel)).1 rfl (takes_of rfl rfl rfl rfl) rfl)) (fs_cons (f_expr (pf_meth cs.c_f_Reader_operand hr (pass_of (takes_of rfl rfl rfl rfl)) (pf_var 1) (pfa_cons (pf_dgetD (hu1 hr) (pf_disp (pps_c pf_str (pf_glob rfl B.g_FALSUM) (pps_c pf_str (pf_call0 cs.c_f_verum hr (pass_of (takes_of rfl rfl rfl rfl)) rfl) pps_n))) (pf_var 3) (pf_tup (pfa_cons pf_str (pfa_cons (pf_var 3) pfa_nil)))) pfa_nil)))
    (fs_one (f_set 2 sc_parse.nd pf_bl))))))))) (fs_one (f_if (pt_cmpF (op_eqD hr.units) ok2_eq (pf_var 3) pf_str (nomark _)) (fs_cons (f_if (pt_cmpF (op_eqD hr.units) ok2_eq (pf_callB cf_len (okL_one ok_len) rfl B.m_len PySem.boot_len (pfa_cons (pf_fld B.k_Reader (pf_var 1)) pfa_nil)) pf_int (nomark _)) (fs_one (f_raise (B.xt.ad "InvalidText" (by decide +kernel)).1 rfl (takes_of rfl rfl rfl rfl) rfl)) fs_nil)
    (fs_one (f_expr (pf_meth cs.c_f_Reader_operand hr (pass_of (takes_of rfl rfl rfl rfl)) (pf_var 1) (pfa_cons (pf_meth0 cs.c_f_Reader_close hr (pass_of (takes_of rfl rfl rfl rfl)) (pf_var 1)) pfa_nil))))) (fs_one (f_if (pt_tabG B.t_BINARY rfl (pf_var 3)) (fs_cons (f_expr (pf_meth cs.c_f_Reader_sign hr (pass_of (takes_of rfl rfl rfl rfl)) (pf_var 1) (pfa_cons (pf_var 3) pfa_nil)))
    (fs_one (f_set 2 sc_parse.nd pf_bl))) (fs_one (f_raise (B.xt.ad "InvalidText" (by decide +kernel)).1 rfl (takes_of rfl rfl rfl rfl) rfl)))))))))
    (fs_cons (f_if (PW.pt (pw_orF (pt_tru (pf_var 2)) (pw_or1F (pt_cmpF op_gt ok2_gt (pf_callB cf_len (okL_one ok_len) rfl B.m_len PySem.boot_len (pfa_cons (pf_fld B.k_Reader (pf_var 1)) pfa_nil)) pf_int (nomark _))))) (fs_one (f_raise (B.xt.ad "InvalidText" (by decide +kernel)).1 rfl (takes_of rfl rfl rfl rfl) rfl)) fs_nil)
    (fs_one (f_ret (pf_meth0 cs.c_f_Reader_close hr (pass_of (takes_of rfl rfl rfl rfl)) (pf_var 1))))))))

theorem ok_law_pool (B : Bt K mg w) (cs : Cs P w K mg base n cl) {a : Addr} {fd : FuncData} (F : Fun K "_law_pool" "_law_pool" st_law_pool a fd) : FnOk P w K mg base (L2.CX P w) (n + 1) a fd ["_law_script"] (spF ⟨K, mg, w⟩ (runDef 1 3 (b_law_pool cl)) 1) :=
  def_ok (ps := ["_law_script"]) F sc_law_pool fun cdv A outer s H E hr => by
    unfold b_law_pool
    exact (fs_cons (f_set 1 sc_law_pool.nd pf_int)
    (fs_cons (f_for (t := (.nm 2)) (passes_of rfl) rfl (pfi_seq (pf_sl (pf_var 0) pfo_none (pfo_some pf_int))) (pg_n 2 sc_law_pool.nd) (fs_one (f_set 1 sc_law_pool.nd (pf_op op_mod ok2_mod (pf_callTy cf_int (okL_one ok_int1) rfl B.m_int (by decide +kernel) (pfa_cons (pf_op opf_add ok2_add (pf_op op_mul ok2_mul (pf_var 1) pf_int) (pf_var 2)) pfa_nil)) pf_int))))
    (fs_one (f_ret (pf_lstM (pfa_cons (pf_callTy cf_list (okL_one ok_list) rfl B.m_list (by decide +kernel) (pfa_cons (pf_var 0) pfa_nil)) (pfa_cons pf_int (pfa_cons pf_int (pfa_cons pf_int (pfa_cons (pf_var 1) pfa_nil))))))))))

theorem ok_law_spread (B : Bt K mg w) (cs : Cs P w K mg base n cl) {a : Addr} {fd : FuncData} (F : Fun K "_law_spread" "_law_spread" st_law_spread a fd) : FnOk P w K mg base (L2.CX P w) (n + 1) a fd ["_law_cell"] (spF ⟨K, mg, w⟩ (runDef 1 4 (b_law_spread cl)) 1) :=
  def_ok (ps := ["_law_cell"]) F sc_law_spread fun cdv A outer s H E hr => by
    unfold b_law_spread
    exact (fs_cons (f_set 1 sc_law_spread.nd (pf_op op_mod ok2_mod (pf_callTy cf_int (okL_one ok_int1) rfl B.m_int (by decide +kernel) (pfa_cons (pf_var 0) pfa_nil)) pf_int))
    (fs_cons (f_set 2 sc_law_spread.nd pf_int)
    (fs_cons (f_for (t := (.nm 3)) (passes_of rfl) rfl (pfi_rng1 rfl B.m_range (pfa_cons pf_int pfa_nil)) (pg_n 3 sc_law_spread.nd) (fs_cons (f_set 1 sc_law_spread.nd (pf_op op_mod ok2_mod (pf_callTy cf_int (okL_one ok_int1) rfl B.m_int (by decide +kernel) (pfa_cons (pf_op opf_add ok2_add (pf_op opf_add ok2_add (pf_op op_mul ok2_mul (pf_var 1) pf_int) pf_int) (pf_var 3)) pfa_nil)) pf_int))
    (fs_one (f_set 2 sc_law_spread.nd (pf_op opf_add ok2_add (pf_op op_mul ok2_mul (pf_var 2) pf_int) (pf_var 1))))))
    (fs_one (f_ret (pf_var 2))))))

theorem ok_law_draw (B : Bt K mg w) (cs : Cs P w K mg base n cl) {a : Addr} {fd : FuncData} (F : Fun K "_law_draw" "_law_draw" st_law_draw a fd) : FnOk P w K mg base (L2.CX P w) (n + 1) a fd ["_law_pool_here", "_law_many"] (spF ⟨K, mg, w⟩ (runDef 2 5 (b_law_draw cl)) 2) :=
  def_ok (ps := ["_law_pool_here", "_law_many"]) F sc_law_draw fun cdv A outer s H E hr => by
    unfold b_law_draw
    exact (fs_cons (f_if (PW.pt (pw_andF (pt_cmpF op_le ok2_le (pf_ix (pf_var 0) pf_int (fun _ _ => rfl)) pf_int (nomark _)) (pw_and1F (pt_cmpF op_lt ok2_lt (pf_ix (pf_var 0) pf_int (fun _ _ => rfl)) (pf_callB cf_len (okL_one ok_len) rfl B.m_len PySem.boot_len (pfa_cons (pf_ix (pf_var 0) pf_int (fun _ _ => rfl)) pfa_nil)) (nomark _))))) (fs_cons (f_set 3 sc_law_draw.nd (pf_ix (pf_ix (pf_var 0) pf_int (fun _ _ => rfl)) (pf_ix (pf_var 0) pf_int (fun _ _ => rfl)) (fun _ _ => rfl)))
    (fs_cons (f_put (pf_op opf_add ok2_add (pf_ix (pf_var 0) pf_int (fun _ _ => rfl)) pf_int) (pf_var 0) pf_int)
    (fs_cons (f_put (pf_var 3) (pf_var 0) pf_int)
    (fs_one (f_if (pt_cmpF op_lt ok2_lt (pf_var 3) pf_int (nomark _)) (fs_one (f_put (pf_call cs.c_f_law_spread hr (pass_of (takes_of rfl rfl rfl rfl)) rfl (pfa_cons (pf_var 3) pfa_nil)) (pf_var 0) pf_int)) fs_nil))))) fs_nil)
    (fs_cons (f_put (pf_op opf_add ok2_add (pf_ix (pf_var 0) pf_int (fun _ _ => rfl)) pf_int) (pf_var 0) pf_int)
    (fs_cons (f_if (pt_cmpF op_le ok2_le (pf_ix (pf_var 0) pf_int (fun _ _ => rfl)) pf_int (nomark _)) (fs_cons (f_set 4 sc_law_draw.nd (pf_op op_mod ok2_mod (pf_callTy cf_int (okL_one ok_int1) rfl B.m_int (by decide +kernel) (pfa_cons (pf_op opf_add ok2_add (pf_op opf_add ok2_add (pf_op op_mul ok2_mul (pf_ix (pf_var 0) pf_int (fun _ _ => rfl)) pf_int) (pf_op op_mul ok2_mul (pf_ix (pf_var 0) pf_int (fun _ _ => rfl)) pf_int)) pf_int) pfa_nil)) pf_int))
    (fs_cons (f_set 4 sc_law_draw.nd (pf_op op_mod ok2_mod (pf_callTy cf_int (okL_one ok_int1) rfl B.m_int (by decide +kernel) (pfa_cons (pf_op opf_add ok2_add (pf_op op_mul ok2_mul (pf_var 4) pf_int) (pf_ix (pf_var 0) pf_int (fun _ _ => rfl))) pfa_nil)) pf_int))
    (fs_one (f_ret (pf_op op_mod ok2_mod (pf_op op_fdiv ok2_div (pf_var 4) pf_int) (pf_var 1)))))) fs_nil)
    (fs_cons (f_set 2 sc_law_draw.nd (pf_op op_mod ok2_mod (pf_callTy cf_int (okL_one ok_int1) rfl B.m_int (by decide +kernel) (pfa_cons (pf_ix (pf_var 0) pf_int (fun _ _ => rfl)) pfa_nil)) (pf_var 1)))
    (fs_cons (f_put (pf_op op_fdiv ok2_div (pf_ix (pf_var 0) pf_int (fun _ _ => rfl)) (pf_var 1)) (pf_var 0) pf_int)
    (fs_one (f_ret (pf_var 2))))))))

theorem ok_law_same (B : Bt K mg w) (cs : Cs P w K mg base n cl) {a : Addr} {fd : FuncData} (F : Fun K "_law_same" "_law_same" st_law_same a fd) : FnOk P w K mg base (L2.CX P w) (n + 1) a fd ["_law_actual", "_law_due"] (spF ⟨K, mg, w⟩ (runDef 2 3 (b_law_same cl)) 2) :=
  def_ok (ps := ["_law_actual", "_law_due"]) F sc_law_same fun cdv A outer s H E hr => by
    unfold b_law_same
    exact (fs_cons (f_if (PW.pt (pw_orF (pt_tru (pf_isi .tup rfl B.m_isinstance rfl B.m_tuple (by decide +kernel) (pf_var 1))) (pw_or1F (pt_tru (pf_isi .lst rfl B.m_isinstance rfl B.m_list (by decide +kernel) (pf_var 1)))))) (fs_cons (f_if (PW.pt (pw_orF (pt_cmpF (op_neD hr.units) ok2_ne (pf_isi .tup rfl B.m_isinstance rfl B.m_tuple (by decide +kernel) (pf_var 1)) (pf_isi .tup rfl B.m_isinstance rfl B.m_tuple (by decide +kernel) (pf_var 0)) (nomark _)) (pw_or1F (pt_cmpF (op_neD hr.units) ok2_ne (pf_isi .lst rfl B.m_isinstance rfl B.m_list (by decide +kernel) (pf_var 1)) (pf_isi .lst rfl B.m_isinstance rfl B.m_list (by decide +kernel) (pf_var 0)) (nomark _))))) (fs_one (f_ret pf_bl)) fs_nil)
    (fs_cons (f_if (pt_cmpF (op_neD hr.units) ok2_ne (pf_callB cf_len (okL_one ok_len) rfl B.m_len PySem.boot_len (pfa_cons (pf_var 0) pfa_nil)) (pf_callB cf_len (okL_one ok_len) rfl B.m_len PySem.boot_len (pfa_cons (pf_var 1) pfa_nil)) (nomark _)) (fs_one (f_ret pf_bl)) fs_nil)
    (fs_cons (f_for (t := (.nm 2)) (passes_of rfl) rfl (pfi_rng1 rfl B.m_range (pfa_cons (pf_callB cf_len (okL_one ok_len) rfl B.m_len PySem.boot_len (pfa_cons (pf_var 1) pfa_nil)) pfa_nil)) (pg_n 2 sc_law_same.nd) (fs_one (f_if (pt_notF (pt_tru (pf_call cs.c_f_law_same hr (pass_of (takes_of rfl rfl rfl rfl)) rfl (pfa_cons (pf_ix (pf_var 0) (pf_var 2) (fun _ _ => rfl)) (pfa_cons (pf_ix (pf_var 1) (pf_var 2) (fun _ _ => rfl)) pfa_nil))))) (fs_one (f_ret pf_bl)) fs_nil)))
    (fs_one (f_ret pf_bl))))) fs_nil)
    (fs_cons (f_if (pt_cmpF op_isN ok2_isN (pf_var 1) pf_non (nomark _)) (fs_one (f_ret (pf_cmp op_isN ok2_isN (pf_var 0) pf_non (nomark _)))) fs_nil)
    (fs_cons (f_if (pt_tru (pf_isi .bl rfl B.m_isinstance rfl B.m_bool (by decide +kernel) (pf_var 1))) (fs_one (f_ret (pf_and (pf_isi .bl rfl B.m_isinstance rfl B.m_bool (by decide +kernel) (pf_var 0)) (pf_one (pf_cmp (op_eqD hr.units) ok2_eq (pf_var 0) (pf_var 1) (nomark _)))))) fs_nil)
    (fs_cons (f_if (pt_tru (pf_isi .int rfl B.m_isinstance rfl B.m_int (by decide +kernel) (pf_var 1))) (fs_one (f_ret (pf_and (pf_isi .int rfl B.m_isinstance rfl B.m_int (by decide +kernel) (pf_var 0)) (pf_and (pf_not (pf_isi .bl rfl B.m_isinstance rfl B.m_bool (by decide +kernel) (pf_var 0))) (pf_one (pf_cmp (op_eqD hr.units) ok2_eq (pf_var 0) (pf_var 1) (nomark _))))))) fs_nil)
    (fs_one (f_ret (pf_and (pf_isi .str rfl B.m_isinstance rfl B.m_str (by decide +kernel) (pf_var 0)) (pf_one (pf_cmp (op_eqD hr.units) ok2_eq (pf_var 0) (pf_var 1) (nomark _))))))))))

theorem ok_law_not (B : Bt K mg w) (cs : Cs P w K mg base n cl) {a : Addr} {fd : FuncData} (F : Fun K "_law_not" "_law_not" st_law_not a fd) : FnOk P w K mg base (L2.CX P w) (n + 1) a fd ["_law_a"] (spF ⟨K, mg, w⟩ (runDef 1 1 (b_law_not cl)) 1) :=
  def_ok (ps := ["_law_a"]) F sc_law_not fun cdv A outer s H E hr => by
    unfold b_law_not
    exact (fs_one (f_ret (pf_tup (pfa_cons pf_str (pfa_cons (pf_var 0) (pfa_cons (pf_tup (pfa_cons pf_str pfa_nil)) pfa_nil))))))

theorem ok_law (B : Bt K mg w) (cs : Cs P w K mg base n cl) {a : Addr} {fd : FuncData} (F : Fun K "law" "law" st_law a fd) : FnOk P w K mg base (L2.CX P w) (n + 1) a fd ["_law_script"] (spF ⟨K, mg, w⟩ (runDef 1 11 (b_law cl)) 1) :=
  def_ok (ps := ["_law_script"]) F sc_law fun cdv A outer s H E hr => by
    unfold b_law
    exact (fs_cons (f_set 1 sc_law.nd (pf_call cs.c_f_law_pool hr (pass_of (takes_of rfl rfl rfl rfl)) rfl (pfa_cons (pf_var 0) pfa_nil)))
    (fs_cons (f_set 2 sc_law.nd (pf_call cs.c_f_law_draw hr (pass_of (takes_of rfl rfl rfl rfl)) rfl (pfa_cons (pf_var 1) (pfa_cons pf_int pfa_nil))))
    (fs_cons (f_set 3 sc_law.nd (pf_ix (pf_lst (pfa_cons pf_int (pfa_cons pf_int (pfa_cons pf_int (pfa_cons pf_int (pfa_cons (pf_op opf_add ok2_add pf_int (pf_call cs.c_f_law_draw hr (pass_of (takes_of rfl rfl rfl rfl)) rfl (pfa_cons (pf_var 1) (pfa_cons pf_int pfa_nil)))) (pfa_cons pf_int (pfa_cons (pf_op opf_add ok2_add pf_int (pf_call cs.c_f_law_draw hr (pass_of (takes_of rfl rfl rfl rfl)) rfl (pfa_cons (pf_var 1) (pfa_cons pf_int pfa_nil)))) pfa_nil)))))))) (pf_call cs.c_f_law_draw hr (pass_of (takes_of rfl rfl rfl rfl)) rfl (pfa_cons (pf_var 1) (pfa_cons pf_int pfa_nil))) (fun _ _ => rfl)))
    (fs_cons (f_set 4 sc_law.nd (pf_tup (pfa_cons pf_str (pfa_cons pf_str pfa_nil))))
    (fs_cons (f_set 5 sc_law.nd pf_int)
    (fs_cons (f_set 6 sc_law.nd pf_str)
    (fs_cons (f_if (pt_cmpF (op_eqD hr.units) ok2_eq (pf_var 2) pf_int (nomark _)) (fs_cons (f_setLc 7 (own := [("_law_k", 10)]) (t := (.nm 10)) kStill_ok (by decide) rfl sc_law.nd (sw_true rfl rfl rfl (by decide +kernel)) (pfi_rng1 rfl B.m_range (pfa_cons (pf_var 3) pfa_nil)) (blkOk_by (N := ["_law_script", "_law_pool_here", "_law_way", "_law_many", "_law_a", "_law_tall", "_law_text", "_law_signs", "_law_sign", "_law_told", "_law_k"]) (sc := defScope st_law) (by decide +kernel)) (fun _ _ _ _ _ => (pg_n 10 sc_law.nd)) (fun _ _ _ _ _ => fts_nil) (fun _ _ _ _ _ => (pf_ix (pf_lst (pfa_cons pf_str (pfa_cons pf_str (pfa_cons pf_str pfa_nil)))) (pf_if (pt_cmpF op_lt ok2_lt (pf_var 10) pf_int (nomark _)) (pf_call cs.c_f_law_draw hr pass_0 rfl (pfa_cons (pf_var 1) (pfa_cons pf_int pfa_nil))) pf_int) (fun _ _ => rfl))))
    (fs_cons (f_set 6 sc_law.nd (pf_op opf_add ok2_add (pf_join pf_str (pf_var 7)) pf_str))
    (fs_one (f_for (t := (.nm 8)) (passes_of rfl) rfl (pfi_seq (pf_slR (pf_var 7) (pfo_some (pf_neg pf_int)))) (pg_n 8 sc_law.nd) (fs_cons (f_set 5 sc_law.nd (pf_op opf_add ok2_add (pf_var 5) (pf_if (pt_cmpF (op_eqD hr.units) ok2_eq (pf_var 8) pf_str (nomark _)) pf_int pf_int)))
    (fs_one (f_if (pt_cmpF op_le ok2_le (pf_var 5) pf_int (nomark _)) (fs_one (f_set 4 sc_law.nd (pf_dget (hu1 hr) (pf_disp (pps_c pf_str (pf_call cs.c_f_law_not hr (pass_of (takes_of rfl rfl rfl rfl)) rfl (pfa_cons (pf_var 4) pfa_nil)) (pps_c pf_str (pf_tup (pfa_cons pf_str (pfa_cons (pf_var 4) pfa_nil))) (pps_c pf_str (pf_call cs.c_f_law_not hr (pass_of (takes_of rfl rfl rfl rfl)) rfl (pfa_cons (pf_tup (pfa_cons pf_str (pfa_cons (pf_call cs.c_f_law_not hr (pass_of (takes_of rfl rfl rfl rfl)) rfl (pfa_cons (pf_var 4) pfa_nil)) pfa_nil))) pfa_nil)) pps_n)))) (pf_var 8) (fun _ _ => rfl)))) fs_nil))))))) (fs_one (f_if (pt_cmpF (op_eqD hr.units) ok2_eq (pf_var 2) pf_int (nomark _)) (fs_cons (f_set 6 sc_law.nd (pf_op opf_add ok2_add (pf_op op_mulS ok2_mulS pf_str (pf_op op_sub ok2_sub (pf_var 3) pf_int)) pf_str))
    (fs_cons (f_set 5 sc_law.nd (pf_var 3))
    (fs_one (f_for (t := (.nm 10)) (passes_of rfl) rfl (pfi_rng1 rfl B.m_range (pfa_cons (pf_op op_sub ok2_sub (pf_callB (cr_min2 rfl) ok_min2 rfl B.m_min (by decide +kernel) (pfa_cons (pf_var 3) (pfa_cons pf_int pfa_nil))) pf_int) pfa_nil)) (pg_n 10 sc_law.nd) (fs_one (f_set 4 sc_law.nd (pf_tup (pfa_cons pf_str (pfa_cons (pf_tup (pfa_cons pf_str (pfa_cons pf_str pfa_nil))) (pfa_cons (pf_var 4) pfa_nil)))))))))) (fs_one (f_if (pt_cmpF op_lt ok2_lt (pf_var 2) pf_int (nomark _)) (fs_cons (f_set 8 sc_law.nd (pf_ix (pf_lst (pfa_cons pf_str (pfa_cons pf_str pfa_nil))) (pf_op op_sub ok2_sub (pf_var 2) pf_int) (fun _ _ => rfl)))
    (fs_cons (f_set 6 sc_law.nd (pf_op opf_add ok2_add pf_str (pf_op op_mulS ok2_mulS (pf_op opf_add ok2_add (pf_op opf_add ok2_add pf_str (pf_var 8)) pf_str) (pf_op op_sub ok2_sub (pf_var 3) pf_int))))
    (fs_cons (f_set 5 sc_law.nd (pf_var 3))
    (fs_one (f_for (t := (.nm 10)) (passes_of rfl) rfl (pfi_rng1 rfl B.m_range (pfa_cons (pf_op op_sub ok2_sub (pf_callB (cr_min2 rfl) ok_min2 rfl B.m_min (by decide +kernel) (pfa_cons (pf_var 3) (pfa_cons pf_int pfa_nil))) pf_int) pfa_nil)) (pg_n 10 sc_law.nd) (fs_one (f_set 4 sc_law.nd (pf_tup (pfa_cons (pf_dget (hu1 hr) (pf_disp (pps_c pf_str pf_str (pps_c pf_str pf_str pps_n))) (pf_var 8) (fun _ _ => rfl)) (pfa_cons (pf_var 4) (pfa_cons (pf_tup (pfa_cons pf_str (pfa_cons pf_str pfa_nil))) pfa_nil))))))))))) (fs_cons (f_set 6 sc_law.nd (pf_op opf_add ok2_add (pf_op opf_add ok2_add (pf_op op_mulS ok2_mulS pf_str (pf_var 3)) pf_str) (pf_op op_mulS ok2_mulS pf_str (pf_var 3))))
    (fs_one (f_set 5 sc_law.nd (pf_if (pt_cmpF op_gt ok2_gt (pf_var 3) pf_int (nomark _)) pf_int pf_int)))))))))
    (fs_cons (f_tryM (hdf_cons (fs := sRet (cBin gGt (cVar 5) (cK (.int 60)))) B.xt (by decide +kernel) rfl (by decide) (fun a oe cls d pn hz hd => (fs_one (f_ret (pf_cmp op_gt ok2_gt (pf_var 5) pf_int (nomark _))))) hdf_nil) rfl rfl (takes_of rfl rfl rfl rfl) (fun W pn xe tk _ => (fs_one (f_set 9 sc_law.nd (pf_call cs.c_f_parse hr (pass_of tk) rfl (pfa_cons (pf_var 6) pfa_nil))))))
    (fs_one (f_ret (pf_and (pf_cmp op_le ok2_le (pf_var 5) pf_int (nomark _)) (pf_and (pf_call cs.c_f_law_same hr (pass_of (takes_of rfl rfl rfl rfl)) rfl (pfa_cons (pf_var 9) (pfa_cons (pf_var 4) pfa_nil))) (pf_one (pf_call cs.c_f_law_same hr (pass_of (takes_of rfl rfl rfl rfl)) rfl (pfa_cons (pf_call cs.c_f_height hr (pass_of (takes_of rfl rfl rfl rfl)) rfl (pfa_cons (pf_var 9) pfa_nil)) (pfa_cons (pf_var 5) pfa_nil))))))))))))))))

theorem ok_Reader_init (B : Bt K mg w) (cs : Cs P w K mg base n cl) {a : Addr} {fd : FuncData} (F : Fun K "__init__" "Reader.__init__" st_Reader_init a fd) : FnOk P w K mg base (L2.CX P w) (n + 1) a fd ["self"] (spF ⟨K, mg, w⟩ (runDef 1 1 (b_Reader_init cl)) 1) :=
  def_ok (ps := ["self"]) F sc_Reader_init fun cdv A outer s H E hr => by
    unfold b_Reader_init
    exact (fs_one (f_setF B.k_Reader (pf_var 0) (pf_lstM (pfa_cons (pf_tup (pfa_cons (pf_lstM pfa_nil) (pfa_cons (pf_lstM pfa_nil) pfa_nil))) pfa_nil))))

theorem ok_Reader_operand (B : Bt K mg w) (cs : Cs P w K mg base n cl) {a : Addr} {fd : FuncData} (F : Fun K "operand" "Reader.operand" st_Reader_operand a fd) : FnOk P w K mg base (L2.CX P w) (n + 1) a fd ["self", "a"] (spF ⟨K, mg, w⟩ (runDef 2 4 (b_Reader_operand cl)) 2) :=
  def_ok (ps := ["self", "a"]) F sc_Reader_operand fun cdv A outer s H E hr => by
    unfold b_Reader_operand
    exact (fs_cons (f_asg (t := (.tp [2, 3])) (pg_t rfl (pgn_cons (pg_n 2 sc_Reader_operand.nd) (pgn_cons (pg_n 3 sc_Reader_operand.nd) pgn_nil))) (pf_ix (pf_fld B.k_Reader (pf_var 0)) (pf_neg pf_int) (fun _ _ => rfl)))
    (fs_cons (f_while (passes_of rfl) (PW.pt (pw_andF (pt_cmpF op_gt ok2_gt (pf_callB cf_len (okL_one ok_len) rfl B.m_len PySem.boot_len (pfa_cons (pf_var 3) pfa_nil)) pf_int (nomark _)) (pw_and1F (pt_tabG B.t_PREFIXES rfl (pf_ix (pf_var 3) (pf_neg pf_int) (fun _ _ => rfl)))))) (fs_one (f_set 1 sc_Reader_operand.nd (pf_call cs.c_f_checked hr (pass_of (takes_of rfl rfl rfl rfl)) rfl (pfa_cons (pf_callE (tab_cons cs.c_f_neg (tab_cons cs.c_f_boxed (tab_cons cs.c_f_dia tab_nil))) hr (pass_of (takes_of rfl rfl rfl rfl)) (pf_tab B.t_PREFIXES.tab rfl (pf_pop (pf_var 3)) (fun _ _ => rfl)) (pfa_cons (pf_var 1) pfa_nil)) pfa_nil)))))
    (fs_one (f_expr (pf_append (pf_var 2) (pfa_cons (pf_var 1) pfa_nil))))))

theorem ok_Reader_reduce (B : Bt K mg w) (cs : Cs P w K mg base n cl) {a : Addr} {fd : FuncData} (F : Fun K "reduce" "Reader.reduce" st_Reader_reduce a fd) : FnOk P w K mg base (L2.CX P w) (n + 1) a fd ["self", "level"] (spF ⟨K, mg, w⟩ (runDef 2 6 (b_Reader_reduce cl)) 2) :=
  def_ok (ps := ["self", "level"]) F sc_Reader_reduce fun cdv A outer s H E hr => by
    unfold b_Reader_reduce
    exact (fs_cons (f_asg (t := (.tp [2, 3])) (pg_t rfl (pgn_cons (pg_n 2 sc_Reader_reduce.nd) (pgn_cons (pg_n 3 sc_Reader_reduce.nd) pgn_nil))) (pf_ix (pf_fld B.k_Reader (pf_var 0)) (pf_neg pf_int) (fun _ _ => rfl)))
    (fs_one (f_while (passes_of rfl) (PW.pt (pw_andF (pt_cmpF op_gt ok2_gt (pf_callB cf_len (okL_one ok_len) rfl B.m_len PySem.boot_len (pfa_cons (pf_var 3) pfa_nil)) pf_int (nomark _)) (pw_and1F (pt_cmpF op_ge ok2_ge (pf_tab B.t_LEVELS.tab rfl (pf_ix (pf_var 3) (pf_neg pf_int) (fun _ _ => rfl)) (fun _ _ => rfl)) (pf_var 1) (nomark _))))) (fs_cons (f_set 4 sc_Reader_reduce.nd (pf_pop (pf_var 2)))
    (fs_cons (f_set 5 sc_Reader_reduce.nd (pf_pop (pf_var 2)))
    (fs_one (f_expr (pf_append (pf_var 2) (pfa_cons (pf_call cs.c_f_checked hr (pass_of (takes_of rfl rfl rfl rfl)) rfl (pfa_cons (pf_callE (tab_cons cs.c_f_iff (tab_cons cs.c_f_implied (tab_cons cs.c_f_either (tab_cons cs.c_f_both tab_nil)))) hr (pass_of (takes_of rfl rfl rfl rfl)) (pf_tab B.t_BINARY.tab rfl (pf_pop (pf_var 3)) (fun _ _ => rfl)) (pfa_cons (pf_var 5) (pfa_cons (pf_var 4) pfa_nil))) pfa_nil)) pfa_nil)))))))))

theorem ok_Reader_sign (B : Bt K mg w) (cs : Cs P w K mg base n cl) {a : Addr} {fd : FuncData} (F : Fun K "sign" "Reader.sign" st_Reader_sign a fd) : FnOk P w K mg base (L2.CX P w) (n + 1) a fd ["self", "token"] (spF ⟨K, mg, w⟩ (runDef 2 4 (b_Reader_sign cl)) 2) :=
  def_ok (ps := ["self", "token"]) F sc_Reader_sign fun cdv A outer s H E hr => by
    unfold b_Reader_sign
    exact (fs_cons (f_set 2 sc_Reader_sign.nd (pf_tab B.t_LEVELS.tab rfl (pf_var 1) (fun _ _ => rfl)))
    (fs_cons (f_set 3 sc_Reader_sign.nd (pf_ix (pf_ix (pf_fld B.k_Reader (pf_var 0)) (pf_neg pf_int) (fun _ _ => rfl)) pf_int (fun _ _ => rfl)))
    (fs_cons (f_if (PW.pt (pw_andF (pt_cmpF (op_eqD hr.units) ok2_eq (pf_var 1) pf_str (nomark _)) (pw_and1F (pt_cmpF (opf_in (hu65 hr)) ok2_in pf_str (pf_var 3) (by rfl))))) (fs_one (f_raise (B.xt.ad "InvalidText" (by decide +kernel)).1 rfl (takes_of rfl rfl rfl rfl) rfl)) fs_nil)
    (fs_cons (f_expr (pf_meth cs.c_f_Reader_reduce hr (pass_of (takes_of rfl rfl rfl rfl)) (pf_var 0) (pfa_cons (pf_if (pt_cmpF (op_eqD hr.units) ok2_eq (pf_var 1) pf_str (nomark _)) (pf_op opf_add ok2_add (pf_var 2) pf_int) (pf_var 2)) pfa_nil)))
    (fs_one (f_expr (pf_append (pf_var 3) (pfa_cons (pf_var 1) pfa_nil))))))))

theorem ok_Reader_close (B : Bt K mg w) (cs : Cs P w K mg base n cl) {a : Addr} {fd : FuncData} (F : Fun K "close" "Reader.close" st_Reader_close a fd) : FnOk P w K mg base (L2.CX P w) (n + 1) a fd ["self"] (spF ⟨K, mg, w⟩ (runDef 1 1 (b_Reader_close cl)) 1) :=
  def_ok (ps := ["self"]) F sc_Reader_close fun cdv A outer s H E hr => by
    unfold b_Reader_close
    exact (fs_cons (f_expr (pf_meth cs.c_f_Reader_reduce hr (pass_of (takes_of rfl rfl rfl rfl)) (pf_var 0) (pfa_cons pf_int pfa_nil)))
    (fs_one (f_ret (pf_ix (pf_ix (pf_pop (pf_fld B.k_Reader (pf_var 0))) pf_int (fun _ _ => rfl)) pf_int (fun _ _ => rfl)))))

end

/-- what stands behind the top -/
structure Ad (K : PySem.W.Frag) (mg : Str → Option Value) (w : World) : Prop where
  bt : Bt K mg w
  a_f_neg : ∃ a fd, mg "neg" = some (.ref a) ∧ Fun K "neg" "neg" st_neg a fd ∧ Binds K fd ["a"] []
  a_f_verum : ∃ a fd, mg "verum" = some (.ref a) ∧ Fun K "verum" "verum" st_verum a fd ∧ Binds K fd [] []
  a_f_dia : ∃ a fd, mg "dia" = some (.ref a) ∧ Fun K "dia" "dia" st_dia a fd ∧ Binds K fd ["a"] []
  a_f_iff : ∃ a fd, mg "iff" = some (.ref a) ∧ Fun K "iff" "iff" st_iff a fd ∧ Binds K fd ["a", "b"] []
  a_f_parts : ∃ a fd, mg "parts" = some (.ref a) ∧ Fun K "parts" "parts" st_parts a fd ∧ Binds K fd ["a"] []
  a_f_height : ∃ a fd, mg "height" = some (.ref a) ∧ Fun K "height" "height" st_height a fd ∧ Binds K fd ["a"] []
  a_f_is_name : ∃ a fd, mg "is_name" = some (.ref a) ∧ Fun K "is_name" "is_name" st_is_name a fd ∧ Binds K fd ["text"] []
  a_f_tokens_of : ∃ a fd, mg "tokens_of" = some (.ref a) ∧ Fun K "tokens_of" "tokens_of" st_tokens_of a fd ∧ Binds K fd ["text"] []
  a_f_checked : ∃ a fd, mg "checked" = some (.ref a) ∧ Fun K "checked" "checked" st_checked a fd ∧ Binds K fd ["a"] []
  a_f_boxed : ∃ a fd, mg "boxed" = some (.ref a) ∧ Fun K "boxed" "boxed" st_boxed a fd ∧ Binds K fd ["a"] []
  a_f_both : ∃ a fd, mg "both" = some (.ref a) ∧ Fun K "both" "both" st_both a fd ∧ Binds K fd ["a", "b"] []
  a_f_either : ∃ a fd, mg "either" = some (.ref a) ∧ Fun K "either" "either" st_either a fd ∧ Binds K fd ["a", "b"] []
  a_f_implied : ∃ a fd, mg "implied" = some (.ref a) ∧ Fun K "implied" "implied" st_implied a fd ∧ Binds K fd ["a", "b"] []
  a_f_parse : ∃ a fd, mg "parse" = some (.ref a) ∧ Fun K "parse" "parse" st_parse a fd ∧ Binds K fd ["text"] []
  a_f_law_pool : ∃ a fd, mg "_law_pool" = some (.ref a) ∧ Fun K "_law_pool" "_law_pool" st_law_pool a fd ∧ Binds K fd ["_law_script"] []
  a_f_law_spread : ∃ a fd, mg "_law_spread" = some (.ref a) ∧ Fun K "_law_spread" "_law_spread" st_law_spread a fd ∧ Binds K fd ["_law_cell"] []
  a_f_law_draw : ∃ a fd, mg "_law_draw" = some (.ref a) ∧ Fun K "_law_draw" "_law_draw" st_law_draw a fd ∧ Binds K fd ["_law_pool_here", "_law_many"] []
  a_f_law_same : ∃ a fd, mg "_law_same" = some (.ref a) ∧ Fun K "_law_same" "_law_same" st_law_same a fd ∧ Binds K fd ["_law_actual", "_law_due"] []
  a_f_law_not : ∃ a fd, mg "_law_not" = some (.ref a) ∧ Fun K "_law_not" "_law_not" st_law_not a fd ∧ Binds K fd ["_law_a"] []
  a_f_law : ∃ a fd, mg "law" = some (.ref a) ∧ Fun K "law" "law" st_law a fd ∧ Binds K fd ["_law_script"] []
  a_f_Reader_init : ∃ A f fd, mg "Reader" = some (.ref A) ∧ Mk K A f ∧ Fun K "__init__" "Reader.__init__" st_Reader_init f fd ∧ Binds K fd ["self"] []
  a_f_Reader_operand : ∃ A f fd, mg "Reader" = some (.ref A) ∧ Cls K A ∧ Meth K A "operand" f ∧ Fun K "operand" "Reader.operand" st_Reader_operand f fd ∧ Binds K fd ["self", "a"] []
  a_f_Reader_reduce : ∃ A f fd, mg "Reader" = some (.ref A) ∧ Cls K A ∧ Meth K A "reduce" f ∧ Fun K "reduce" "Reader.reduce" st_Reader_reduce f fd ∧ Binds K fd ["self", "level"] []
  a_f_Reader_sign : ∃ A f fd, mg "Reader" = some (.ref A) ∧ Cls K A ∧ Meth K A "sign" f ∧ Fun K "sign" "Reader.sign" st_Reader_sign f fd ∧ Binds K fd ["self", "token"] []
  a_f_Reader_close : ∃ A f fd, mg "Reader" = some (.ref A) ∧ Cls K A ∧ Meth K A "close" f ∧ Fun K "close" "Reader.close" st_Reader_close f fd ∧ Binds K fd ["self"] []
  a_f_Reader : ∃ A, mg "Reader" = some (.ref A) ∧ PySem.W.keepIn K (.ref A) = true

theorem all_ok {P : Program} {w : World} {K : PySem.W.Frag} {mg : Str → Option Value} {base : Heap} (T : Ad K mg w) : ∀ n, Cs P w K mg base n (ev n)
  | 0 => {
      c_f_neg := by
        obtain ⟨a, fd, m, F, b⟩ := T.a_f_neg
        exact ⟨a, fd, _, m, F.kp, b, rfl, no_ok⟩,
      c_f_verum := by
        obtain ⟨a, fd, m, F, b⟩ := T.a_f_verum
        exact ⟨a, fd, _, m, F.kp, b, rfl, no_ok⟩,
      c_f_dia := by
        obtain ⟨a, fd, m, F, b⟩ := T.a_f_dia
        exact ⟨a, fd, _, m, F.kp, b, rfl, no_ok⟩,
      c_f_iff := by
        obtain ⟨a, fd, m, F, b⟩ := T.a_f_iff
        exact ⟨a, fd, _, m, F.kp, b, rfl, no_ok⟩,
      c_f_parts := by
        obtain ⟨a, fd, m, F, b⟩ := T.a_f_parts
        exact ⟨a, fd, _, m, F.kp, b, rfl, no_ok⟩,
      c_f_height := by
        obtain ⟨a, fd, m, F, b⟩ := T.a_f_height
        exact ⟨a, fd, _, m, F.kp, b, rfl, no_ok⟩,
      c_f_is_name := by
        obtain ⟨a, fd, m, F, b⟩ := T.a_f_is_name
        exact ⟨a, fd, _, m, F.kp, b, rfl, no_ok⟩,
      c_f_tokens_of := by
        obtain ⟨a, fd, m, F, b⟩ := T.a_f_tokens_of
        exact ⟨a, fd, _, m, F.kp, b, rfl, no_ok⟩,
      c_f_checked := by
        obtain ⟨a, fd, m, F, b⟩ := T.a_f_checked
        exact ⟨a, fd, _, m, F.kp, b, rfl, no_ok⟩,
      c_f_boxed := by
        obtain ⟨a, fd, m, F, b⟩ := T.a_f_boxed
        exact ⟨a, fd, _, m, F.kp, b, rfl, no_ok⟩,
      c_f_both := by
        obtain ⟨a, fd, m, F, b⟩ := T.a_f_both
        exact ⟨a, fd, _, m, F.kp, b, rfl, no_ok⟩,
      c_f_either := by
        obtain ⟨a, fd, m, F, b⟩ := T.a_f_either
        exact ⟨a, fd, _, m, F.kp, b, rfl, no_ok⟩,
      c_f_implied := by
        obtain ⟨a, fd, m, F, b⟩ := T.a_f_implied
        exact ⟨a, fd, _, m, F.kp, b, rfl, no_ok⟩,
      c_f_parse := by
        obtain ⟨a, fd, m, F, b⟩ := T.a_f_parse
        exact ⟨a, fd, _, m, F.kp, b, rfl, no_ok⟩,
      c_f_law_pool := by
        obtain ⟨a, fd, m, F, b⟩ := T.a_f_law_pool
        exact ⟨a, fd, _, m, F.kp, b, rfl, no_ok⟩,
      c_f_law_spread := by
        obtain ⟨a, fd, m, F, b⟩ := T.a_f_law_spread
        exact ⟨a, fd, _, m, F.kp, b, rfl, no_ok⟩,
      c_f_law_draw := by
        obtain ⟨a, fd, m, F, b⟩ := T.a_f_law_draw
        exact ⟨a, fd, _, m, F.kp, b, rfl, no_ok⟩,
      c_f_law_same := by
        obtain ⟨a, fd, m, F, b⟩ := T.a_f_law_same
        exact ⟨a, fd, _, m, F.kp, b, rfl, no_ok⟩,
      c_f_law_not := by
        obtain ⟨a, fd, m, F, b⟩ := T.a_f_law_not
        exact ⟨a, fd, _, m, F.kp, b, rfl, no_ok⟩,
      c_f_law := by
        obtain ⟨a, fd, m, F, b⟩ := T.a_f_law
        exact ⟨a, fd, _, m, F.kp, b, rfl, no_ok⟩,
      c_f_Reader_init := by
        obtain ⟨A, a, fd, m, mk, F, b⟩ := T.a_f_Reader_init
        exact ⟨A, a, fd, _, m, mk, b, no_ok⟩,
      c_f_Reader_operand := by
        obtain ⟨A, a, fd, m, cl, mt, F, b⟩ := T.a_f_Reader_operand
        exact meth_no m cl mt,
      c_f_Reader_reduce := by
        obtain ⟨A, a, fd, m, cl, mt, F, b⟩ := T.a_f_Reader_reduce
        exact meth_no m cl mt,
      c_f_Reader_sign := by
        obtain ⟨A, a, fd, m, cl, mt, F, b⟩ := T.a_f_Reader_sign
        exact meth_no m cl mt,
      c_f_Reader_close := by
        obtain ⟨A, a, fd, m, cl, mt, F, b⟩ := T.a_f_Reader_close
        exact meth_no m cl mt,
      c_f_Reader := by
        obtain ⟨A, m, kp⟩ := T.a_f_Reader
        exact make_no m kp }
  | n + 1 => by
    have ih := all_ok (P := P) (w := w) (base := base) T n
    exact {
      c_f_neg := by
        obtain ⟨a, fd, m, F, b⟩ := T.a_f_neg
        exact ⟨a, fd, _, m, F.kp, b, rfl, (ok_neg T.bt ih F)⟩,
      c_f_verum := by
        obtain ⟨a, fd, m, F, b⟩ := T.a_f_verum
        exact ⟨a, fd, _, m, F.kp, b, rfl, (ok_verum T.bt ih F)⟩,
      c_f_dia := by
        obtain ⟨a, fd, m, F, b⟩ := T.a_f_dia
        exact ⟨a, fd, _, m, F.kp, b, rfl, (ok_dia T.bt ih F)⟩,
      c_f_iff := by
        obtain ⟨a, fd, m, F, b⟩ := T.a_f_iff
        exact ⟨a, fd, _, m, F.kp, b, rfl, (ok_iff T.bt ih F)⟩,
      c_f_parts := by
        obtain ⟨a, fd, m, F, b⟩ := T.a_f_parts
        exact ⟨a, fd, _, m, F.kp, b, rfl, (ok_parts T.bt ih F)⟩,
      c_f_height := by
        obtain ⟨a, fd, m, F, b⟩ := T.a_f_height
        exact ⟨a, fd, _, m, F.kp, b, rfl, (ok_height T.bt ih F)⟩,
      c_f_is_name := by
        obtain ⟨a, fd, m, F, b⟩ := T.a_f_is_name
        exact ⟨a, fd, _, m, F.kp, b, rfl, (ok_is_name T.bt ih F)⟩,
      c_f_tokens_of := by
        obtain ⟨a, fd, m, F, b⟩ := T.a_f_tokens_of
        exact ⟨a, fd, _, m, F.kp, b, rfl, (pure_ok (ok_tokens_of T.bt ih F))⟩,
      c_f_checked := by
        obtain ⟨a, fd, m, F, b⟩ := T.a_f_checked
        exact ⟨a, fd, _, m, F.kp, b, rfl, (ok_checked T.bt ih F)⟩,
      c_f_boxed := by
        obtain ⟨a, fd, m, F, b⟩ := T.a_f_boxed
        exact ⟨a, fd, _, m, F.kp, b, rfl, (ok_boxed T.bt ih F)⟩,
      c_f_both := by
        obtain ⟨a, fd, m, F, b⟩ := T.a_f_both
        exact ⟨a, fd, _, m, F.kp, b, rfl, (ok_both T.bt ih F)⟩,
      c_f_either := by
        obtain ⟨a, fd, m, F, b⟩ := T.a_f_either
        exact ⟨a, fd, _, m, F.kp, b, rfl, (ok_either T.bt ih F)⟩,
      c_f_implied := by
        obtain ⟨a, fd, m, F, b⟩ := T.a_f_implied
        exact ⟨a, fd, _, m, F.kp, b, rfl, (ok_implied T.bt ih F)⟩,
      c_f_parse := by
        obtain ⟨a, fd, m, F, b⟩ := T.a_f_parse
        exact ⟨a, fd, _, m, F.kp, b, rfl, (pure_ok (ok_parse T.bt ih F))⟩,
      c_f_law_pool := by
        obtain ⟨a, fd, m, F, b⟩ := T.a_f_law_pool
        exact ⟨a, fd, _, m, F.kp, b, rfl, (ok_law_pool T.bt ih F)⟩,
      c_f_law_spread := by
        obtain ⟨a, fd, m, F, b⟩ := T.a_f_law_spread
        exact ⟨a, fd, _, m, F.kp, b, rfl, (ok_law_spread T.bt ih F)⟩,
      c_f_law_draw := by
        obtain ⟨a, fd, m, F, b⟩ := T.a_f_law_draw
        exact ⟨a, fd, _, m, F.kp, b, rfl, (ok_law_draw T.bt ih F)⟩,
      c_f_law_same := by
        obtain ⟨a, fd, m, F, b⟩ := T.a_f_law_same
        exact ⟨a, fd, _, m, F.kp, b, rfl, (ok_law_same T.bt ih F)⟩,
      c_f_law_not := by
        obtain ⟨a, fd, m, F, b⟩ := T.a_f_law_not
        exact ⟨a, fd, _, m, F.kp, b, rfl, (ok_law_not T.bt ih F)⟩,
      c_f_law := by
        obtain ⟨a, fd, m, F, b⟩ := T.a_f_law
        exact ⟨a, fd, _, m, F.kp, b, rfl, (ok_law T.bt ih F)⟩,
      c_f_Reader_init := by
        obtain ⟨A, a, fd, m, mk, F, b⟩ := T.a_f_Reader_init
        exact ⟨A, a, fd, _, m, mk, b, ok_Reader_init T.bt ih F⟩,
      c_f_Reader_operand := by
        obtain ⟨A, a, fd, m, cl, mt, F, b⟩ := T.a_f_Reader_operand
        exact (meth_ok m cl mt (ok_Reader_operand T.bt ih F) b),
      c_f_Reader_reduce := by
        obtain ⟨A, a, fd, m, cl, mt, F, b⟩ := T.a_f_Reader_reduce
        exact (meth_ok m cl mt (ok_Reader_reduce T.bt ih F) b),
      c_f_Reader_sign := by
        obtain ⟨A, a, fd, m, cl, mt, F, b⟩ := T.a_f_Reader_sign
        exact (meth_ok m cl mt (ok_Reader_sign T.bt ih F) b),
      c_f_Reader_close := by
        obtain ⟨A, a, fd, m, cl, mt, F, b⟩ := T.a_f_Reader_close
        exact (meth_ok m cl mt (ok_Reader_close T.bt ih F) b),
      c_f_Reader := by
        obtain ⟨A, a, fd, ps, m, mk, b, F⟩ := ih.c_f_Reader_init
        exact (make_ok m mk F b) }
set_option maxHeartbeats 0 in
theorem ad_mk {w : World} {K : PySem.W.Frag} {h : Heap} {mg : Str → Option Value} {fa : Addr} (X : K.In h) (G : h.Ns mainGlobals mg) (hfa : mg "law" = some (.ref fa))
    {C0 : Addr}
    {f0 : Addr} {od0 an0 : Option Addr} {sl0 : Array (Option Value)} {oc0 kV0 dc0 pm0 cd0 ct0 : Value}
    {f1 : Addr} {od1 an1 : Option Addr} {sl1 : Array (Option Value)} {oc1 kV1 dc1 pm1 cd1 ct1 : Value}
    {f2 : Addr} {od2 an2 : Option Addr} {sl2 : Array (Option Value)} {oc2 kV2 dc2 pm2 cd2 ct2 : Value}
    {f3 : Addr} {od3 an3 : Option Addr} {sl3 : Array (Option Value)} {oc3 kV3 dc3 pm3 cd3 ct3 : Value}
    {f4 : Addr} {od4 an4 : Option Addr} {sl4 : Array (Option Value)} {oc4 kV4 dc4 pm4 cd4 ct4 : Value}
    {f5 : Addr} {od5 an5 : Option Addr} {sl5 : Array (Option Value)} {oc5 kV5 dc5 pm5 cd5 ct5 : Value}
    {f6 : Addr} {od6 an6 : Option Addr} {sl6 : Array (Option Value)} {oc6 kV6 dc6 pm6 cd6 ct6 : Value}
    {f7 : Addr} {od7 an7 : Option Addr} {sl7 : Array (Option Value)} {oc7 kV7 dc7 pm7 cd7 ct7 : Value}
    {f8 : Addr} {od8 an8 : Option Addr} {sl8 : Array (Option Value)} {oc8 kV8 dc8 pm8 cd8 ct8 : Value}
    {f9 : Addr} {od9 an9 : Option Addr} {sl9 : Array (Option Value)} {oc9 kV9 dc9 pm9 cd9 ct9 : Value}
    {f10 : Addr} {od10 an10 : Option Addr} {sl10 : Array (Option Value)} {oc10 kV10 dc10 pm10 cd10 ct10 : Value}
    {f11 : Addr} {od11 an11 : Option Addr} {sl11 : Array (Option Value)} {oc11 kV11 dc11 pm11 cd11 ct11 : Value}
    {f12 : Addr} {od12 an12 : Option Addr} {sl12 : Array (Option Value)} {oc12 kV12 dc12 pm12 cd12 ct12 : Value}
    {f13 : Addr} {od13 an13 : Option Addr} {sl13 : Array (Option Value)} {oc13 kV13 dc13 pm13 cd13 ct13 : Value}
    {f14 : Addr} {od14 an14 : Option Addr} {sl14 : Array (Option Value)} {oc14 kV14 dc14 pm14 cd14 ct14 : Value}
    {f15 : Addr} {od15 an15 : Option Addr} {sl15 : Array (Option Value)} {oc15 kV15 dc15 pm15 cd15 ct15 : Value}
    {f16 : Addr} {od16 an16 : Option Addr} {sl16 : Array (Option Value)} {oc16 kV16 dc16 pm16 cd16 ct16 : Value}
    {f17 : Addr} {od17 an17 : Option Addr} {sl17 : Array (Option Value)} {oc17 kV17 dc17 pm17 cd17 ct17 : Value}
    {f18 : Addr} {od18 an18 : Option Addr} {sl18 : Array (Option Value)} {oc18 kV18 dc18 pm18 cd18 ct18 : Value}
    {f19 : Addr} {od19 an19 : Option Addr} {sl19 : Array (Option Value)} {oc19 kV19 dc19 pm19 cd19 ct19 : Value}
    {f20 : Addr} {od20 an20 : Option Addr} {sl20 : Array (Option Value)} {oc20 kV20 dc20 pm20 cd20 ct20 : Value}
    {f21 : Addr} {od21 an21 : Option Addr} {sl21 : Array (Option Value)} {oc21 kV21 dc21 pm21 cd21 ct21 : Value}
    {f22 : Addr} {od22 an22 : Option Addr} {sl22 : Array (Option Value)} {oc22 kV22 dc22 pm22 cd22 ct22 : Value}
    {f23 : Addr} {od23 an23 : Option Addr} {sl23 : Array (Option Value)} {oc23 kV23 dc23 pm23 cd23 ct23 : Value}
    {f24 : Addr} {od24 an24 : Option Addr} {sl24 : Array (Option Value)} {oc24 kV24 dc24 pm24 cd24 ct24 : Value}
    {t0 : Addr} {td0 : Option Addr} {ts0 : Array (Option Value)} {te0 : Nat} {tk0_0 : Tok}
    {tk1 : Tok}
    {tk2 : Tok}
    {tk3 : Tok}
    {t4 : Addr} {td4 : Option Addr} {ts4 : Array (Option Value)} {te4 : Nat} {tk4_0 : Tok} {tk4_1 : Tok} {tk4_2 : Tok} {tk4_3 : Tok} {tk4_4 : Tok} {tk4_5 : Tok} {tk4_6 : Tok} {tk4_7 : Tok} {tk4_8 : Tok} {tk4_9 : Tok} {tk4_10 : Tok}
    {d0 : Addr} {es0 : Array DictEntry} {dn0 : Nat} 
    {d1 : Addr} {es1 : Array DictEntry} {dn1 : Nat} 
    {ui1_0 : Tok}
    {ui1_1 : Tok}
    {ui1_2 : Tok}
    {ui1_3 : Tok}
    {d2 : Addr} {es2 : Array DictEntry} {dn2 : Nat} 
    {x0 : Addr}
    (ka0 : PySem.W.nsIn K mainGlobals "Reader" = some (some (.ref C0)))
    (kb0 : PySem.W.plainGet K C0 Str.empty = true)
    (kc0 : PySem.W.hasDictIn K C0 = true)
    (kd0 : PySem.W.plainOver K C0 = true)
    (ke0 : PySem.W.findIn K (.ref C0) "__setattr__" = some (some (.builtin "object.__setattr__")))
    (kf0 : PySem.W.makesIn K C0 = true)
    (kg0 : PySem.W.keepIn K (.ref C0) = true)
    (kh0_0 : PySem.W.findIn K (.ref C0) "frames" = some none)
    (a0 : PySem.W.nsIn K mainGlobals "neg" = some (some (.ref f0)))
    (l0 : K.lookup f0 = some ⟨oc0, od0, .func (PySem.W.fnOf "neg" "neg" (defArgs st_neg) (defBody st_neg) (defScope st_neg) .none kV0 dc0 pm0 an0 cd0 ct0), sl0⟩)
    (c0 : PySem.W.codeIn K cd0 "neg" = true)
    (k0 : PySem.W.keepIn K (.ref f0) = true)
    (a1 : PySem.W.nsIn K mainGlobals "verum" = some (some (.ref f1)))
    (l1 : K.lookup f1 = some ⟨oc1, od1, .func (PySem.W.fnOf "verum" "verum" (defArgs st_verum) (defBody st_verum) (defScope st_verum) .none kV1 dc1 pm1 an1 cd1 ct1), sl1⟩)
    (c1 : PySem.W.codeIn K cd1 "verum" = true)
    (k1 : PySem.W.keepIn K (.ref f1) = true)
    (a2 : PySem.W.nsIn K mainGlobals "dia" = some (some (.ref f2)))
    (l2 : K.lookup f2 = some ⟨oc2, od2, .func (PySem.W.fnOf "dia" "dia" (defArgs st_dia) (defBody st_dia) (defScope st_dia) .none kV2 dc2 pm2 an2 cd2 ct2), sl2⟩)
    (c2 : PySem.W.codeIn K cd2 "dia" = true)
    (k2 : PySem.W.keepIn K (.ref f2) = true)
    (a3 : PySem.W.nsIn K mainGlobals "iff" = some (some (.ref f3)))
    (l3 : K.lookup f3 = some ⟨oc3, od3, .func (PySem.W.fnOf "iff" "iff" (defArgs st_iff) (defBody st_iff) (defScope st_iff) .none kV3 dc3 pm3 an3 cd3 ct3), sl3⟩)
    (c3 : PySem.W.codeIn K cd3 "iff" = true)
    (k3 : PySem.W.keepIn K (.ref f3) = true)
    (a4 : PySem.W.nsIn K mainGlobals "parts" = some (some (.ref f4)))
    (l4 : K.lookup f4 = some ⟨oc4, od4, .func (PySem.W.fnOf "parts" "parts" (defArgs st_parts) (defBody st_parts) (defScope st_parts) .none kV4 dc4 pm4 an4 cd4 ct4), sl4⟩)
    (c4 : PySem.W.codeIn K cd4 "parts" = true)
    (k4 : PySem.W.keepIn K (.ref f4) = true)
    (a5 : PySem.W.nsIn K mainGlobals "height" = some (some (.ref f5)))
    (l5 : K.lookup f5 = some ⟨oc5, od5, .func (PySem.W.fnOf "height" "height" (defArgs st_height) (defBody st_height) (defScope st_height) .none kV5 dc5 pm5 an5 cd5 ct5), sl5⟩)
    (c5 : PySem.W.codeIn K cd5 "height" = true)
    (k5 : PySem.W.keepIn K (.ref f5) = true)
    (a6 : PySem.W.nsIn K mainGlobals "is_name" = some (some (.ref f6)))
    (l6 : K.lookup f6 = some ⟨oc6, od6, .func (PySem.W.fnOf "is_name" "is_name" (defArgs st_is_name) (defBody st_is_name) (defScope st_is_name) .none kV6 dc6 pm6 an6 cd6 ct6), sl6⟩)
    (c6 : PySem.W.codeIn K cd6 "is_name" = true)
    (k6 : PySem.W.keepIn K (.ref f6) = true)
    (a7 : PySem.W.nsIn K mainGlobals "tokens_of" = some (some (.ref f7)))
    (l7 : K.lookup f7 = some ⟨oc7, od7, .func (PySem.W.fnOf "tokens_of" "tokens_of" (defArgs st_tokens_of) (defBody st_tokens_of) (defScope st_tokens_of) .none kV7 dc7 pm7 an7 cd7 ct7), sl7⟩)
    (c7 : PySem.W.codeIn K cd7 "tokens_of" = true)
    (k7 : PySem.W.keepIn K (.ref f7) = true)
    (a8 : PySem.W.nsIn K mainGlobals "checked" = some (some (.ref f8)))
    (l8 : K.lookup f8 = some ⟨oc8, od8, .func (PySem.W.fnOf "checked" "checked" (defArgs st_checked) (defBody st_checked) (defScope st_checked) .none kV8 dc8 pm8 an8 cd8 ct8), sl8⟩)
    (c8 : PySem.W.codeIn K cd8 "checked" = true)
    (k8 : PySem.W.keepIn K (.ref f8) = true)
    (a9 : PySem.W.nsIn K mainGlobals "boxed" = some (some (.ref f9)))
    (l9 : K.lookup f9 = some ⟨oc9, od9, .func (PySem.W.fnOf "boxed" "boxed" (defArgs st_boxed) (defBody st_boxed) (defScope st_boxed) .none kV9 dc9 pm9 an9 cd9 ct9), sl9⟩)
    (c9 : PySem.W.codeIn K cd9 "boxed" = true)
    (k9 : PySem.W.keepIn K (.ref f9) = true)
    (a10 : PySem.W.nsIn K mainGlobals "both" = some (some (.ref f10)))
    (l10 : K.lookup f10 = some ⟨oc10, od10, .func (PySem.W.fnOf "both" "both" (defArgs st_both) (defBody st_both) (defScope st_both) .none kV10 dc10 pm10 an10 cd10 ct10), sl10⟩)
    (c10 : PySem.W.codeIn K cd10 "both" = true)
    (k10 : PySem.W.keepIn K (.ref f10) = true)
    (a11 : PySem.W.nsIn K mainGlobals "either" = some (some (.ref f11)))
    (l11 : K.lookup f11 = some ⟨oc11, od11, .func (PySem.W.fnOf "either" "either" (defArgs st_either) (defBody st_either) (defScope st_either) .none kV11 dc11 pm11 an11 cd11 ct11), sl11⟩)
    (c11 : PySem.W.codeIn K cd11 "either" = true)
    (k11 : PySem.W.keepIn K (.ref f11) = true)
    (a12 : PySem.W.nsIn K mainGlobals "implied" = some (some (.ref f12)))
    (l12 : K.lookup f12 = some ⟨oc12, od12, .func (PySem.W.fnOf "implied" "implied" (defArgs st_implied) (defBody st_implied) (defScope st_implied) .none kV12 dc12 pm12 an12 cd12 ct12), sl12⟩)
    (c12 : PySem.W.codeIn K cd12 "implied" = true)
    (k12 : PySem.W.keepIn K (.ref f12) = true)
    (a13 : PySem.W.nsIn K mainGlobals "parse" = some (some (.ref f13)))
    (l13 : K.lookup f13 = some ⟨oc13, od13, .func (PySem.W.fnOf "parse" "parse" (defArgs st_parse) (defBody st_parse) (defScope st_parse) .none kV13 dc13 pm13 an13 cd13 ct13), sl13⟩)
    (c13 : PySem.W.codeIn K cd13 "parse" = true)
    (k13 : PySem.W.keepIn K (.ref f13) = true)
    (a14 : PySem.W.nsIn K mainGlobals "_law_pool" = some (some (.ref f14)))
    (l14 : K.lookup f14 = some ⟨oc14, od14, .func (PySem.W.fnOf "_law_pool" "_law_pool" (defArgs st_law_pool) (defBody st_law_pool) (defScope st_law_pool) .none kV14 dc14 pm14 an14 cd14 ct14), sl14⟩)
    (c14 : PySem.W.codeIn K cd14 "_law_pool" = true)
    (k14 : PySem.W.keepIn K (.ref f14) = true)
    (a15 : PySem.W.nsIn K mainGlobals "_law_spread" = some (some (.ref f15)))
    (l15 : K.lookup f15 = some ⟨oc15, od15, .func (PySem.W.fnOf "_law_spread" "_law_spread" (defArgs st_law_spread) (defBody st_law_spread) (defScope st_law_spread) .none kV15 dc15 pm15 an15 cd15 ct15), sl15⟩)
    (c15 : PySem.W.codeIn K cd15 "_law_spread" = true)
    (k15 : PySem.W.keepIn K (.ref f15) = true)
    (a16 : PySem.W.nsIn K mainGlobals "_law_draw" = some (some (.ref f16)))
    (l16 : K.lookup f16 = some ⟨oc16, od16, .func (PySem.W.fnOf "_law_draw" "_law_draw" (defArgs st_law_draw) (defBody st_law_draw) (defScope st_law_draw) .none kV16 dc16 pm16 an16 cd16 ct16), sl16⟩)
    (c16 : PySem.W.codeIn K cd16 "_law_draw" = true)
    (k16 : PySem.W.keepIn K (.ref f16) = true)
    (a17 : PySem.W.nsIn K mainGlobals "_law_same" = some (some (.ref f17)))
    (l17 : K.lookup f17 = some ⟨oc17, od17, .func (PySem.W.fnOf "_law_same" "_law_same" (defArgs st_law_same) (defBody st_law_same) (defScope st_law_same) .none kV17 dc17 pm17 an17 cd17 ct17), sl17⟩)
    (c17 : PySem.W.codeIn K cd17 "_law_same" = true)
    (k17 : PySem.W.keepIn K (.ref f17) = true)
    (a18 : PySem.W.nsIn K mainGlobals "_law_not" = some (some (.ref f18)))
    (l18 : K.lookup f18 = some ⟨oc18, od18, .func (PySem.W.fnOf "_law_not" "_law_not" (defArgs st_law_not) (defBody st_law_not) (defScope st_law_not) .none kV18 dc18 pm18 an18 cd18 ct18), sl18⟩)
    (c18 : PySem.W.codeIn K cd18 "_law_not" = true)
    (k18 : PySem.W.keepIn K (.ref f18) = true)
    (a19 : PySem.W.nsIn K mainGlobals "law" = some (some (.ref f19)))
    (l19 : K.lookup f19 = some ⟨oc19, od19, .func (PySem.W.fnOf "law" "law" (defArgs st_law) (defBody st_law) (defScope st_law) .none kV19 dc19 pm19 an19 cd19 ct19), sl19⟩)
    (c19 : PySem.W.codeIn K cd19 "law" = true)
    (k19 : PySem.W.keepIn K (.ref f19) = true)
    (a20 : PySem.W.findIn K (.ref C0) "__init__" = some (some (.ref f20)))
    (i20 : PySem.W.isFn K (.ref f20) = true)
    (l20 : K.lookup f20 = some ⟨oc20, od20, .func (PySem.W.fnOf "__init__" "Reader.__init__" (defArgs st_Reader_init) (defBody st_Reader_init) (defScope st_Reader_init) .none kV20 dc20 pm20 an20 cd20 ct20), sl20⟩)
    (c20 : PySem.W.codeIn K cd20 "Reader.__init__" = true)
    (k20 : PySem.W.keepIn K (.ref f20) = true)
    (a21 : PySem.W.findIn K (.ref C0) "operand" = some (some (.ref f21)))
    (i21 : PySem.W.isFn K (.ref f21) = true)
    (l21 : K.lookup f21 = some ⟨oc21, od21, .func (PySem.W.fnOf "operand" "Reader.operand" (defArgs st_Reader_operand) (defBody st_Reader_operand) (defScope st_Reader_operand) .none kV21 dc21 pm21 an21 cd21 ct21), sl21⟩)
    (c21 : PySem.W.codeIn K cd21 "Reader.operand" = true)
    (k21 : PySem.W.keepIn K (.ref f21) = true)
    (a22 : PySem.W.findIn K (.ref C0) "reduce" = some (some (.ref f22)))
    (i22 : PySem.W.isFn K (.ref f22) = true)
    (l22 : K.lookup f22 = some ⟨oc22, od22, .func (PySem.W.fnOf "reduce" "Reader.reduce" (defArgs st_Reader_reduce) (defBody st_Reader_reduce) (defScope st_Reader_reduce) .none kV22 dc22 pm22 an22 cd22 ct22), sl22⟩)
    (c22 : PySem.W.codeIn K cd22 "Reader.reduce" = true)
    (k22 : PySem.W.keepIn K (.ref f22) = true)
    (a23 : PySem.W.findIn K (.ref C0) "sign" = some (some (.ref f23)))
    (i23 : PySem.W.isFn K (.ref f23) = true)
    (l23 : K.lookup f23 = some ⟨oc23, od23, .func (PySem.W.fnOf "sign" "Reader.sign" (defArgs st_Reader_sign) (defBody st_Reader_sign) (defScope st_Reader_sign) .none kV23 dc23 pm23 an23 cd23 ct23), sl23⟩)
    (c23 : PySem.W.codeIn K cd23 "Reader.sign" = true)
    (k23 : PySem.W.keepIn K (.ref f23) = true)
    (a24 : PySem.W.findIn K (.ref C0) "close" = some (some (.ref f24)))
    (i24 : PySem.W.isFn K (.ref f24) = true)
    (l24 : K.lookup f24 = some ⟨oc24, od24, .func (PySem.W.fnOf "close" "Reader.close" (defArgs st_Reader_close) (defBody st_Reader_close) (defScope st_Reader_close) .none kV24 dc24 pm24 an24 cd24 ct24), sl24⟩)
    (c24 : PySem.W.codeIn K cd24 "Reader.close" = true)
    (k24 : PySem.W.keepIn K (.ref f24) = true)
    (z0 : PySem.W.nsIn K mainGlobals "bool" = some none)
    (z1 : PySem.W.nsIn K mainGlobals "int" = some none)
    (z2 : PySem.W.nsIn K mainGlobals "isinstance" = some none)
    (z3 : PySem.W.nsIn K mainGlobals "len" = some none)
    (z4 : PySem.W.nsIn K mainGlobals "list" = some none)
    (z5 : PySem.W.nsIn K mainGlobals "max" = some none)
    (z6 : PySem.W.nsIn K mainGlobals "min" = some none)
    (z7 : PySem.W.nsIn K mainGlobals "range" = some none)
    (z8 : PySem.W.nsIn K mainGlobals "str" = some none)
    (z9 : PySem.W.nsIn K mainGlobals "tuple" = some none)
    (cg0 : PySem.W.nsIn K mainGlobals "FALSUM" = some (some (.ref t0)))
    (ch0 : K.lookup t0 = some ⟨.type "tuple", td0, .seq (List.toArray [.str "falsum" tk0_0]) te0, ts0⟩)
    (cg1 : PySem.W.nsIn K mainGlobals "LETTERS" = some (some (.str "abcdefghijklmnopqrstuvwxyz" tk1)))
    (cg2 : PySem.W.nsIn K mainGlobals "MAX_HEIGHT" = some (some (.int 60 tk2)))
    (cg3 : PySem.W.nsIn K mainGlobals "MAX_NAME" = some (some (.int 12 tk3)))
    (cg4 : PySem.W.nsIn K mainGlobals "SIGNS" = some (some (.ref t4)))
    (ch4 : K.lookup t4 = some ⟨.type "tuple", td4, .seq (List.toArray [.str "<->" tk4_0, .str "->" tk4_1, .str "[]" tk4_2, .str "<>" tk4_3, .str "F" tk4_4, .str "T" tk4_5, .str "~" tk4_6, .str "&" tk4_7, .str "|" tk4_8, .str "(" tk4_9, .str ")" tk4_10]) te4, ts4⟩)
    (ta0 : PySem.W.nsIn K mainGlobals "BINARY" = some (some (.ref d0)))
    (tb0 : K.lookup d0 = some ⟨.type "dict", none, .dict es0 dn0, #[]⟩)
    (tc0 : PySem.W.KeysLit w.params es0.toList)
    (ti0_0 : PySem.W.nsIn K d0 "<->" = some (some (.ref f3)))
    (ti0_1 : PySem.W.nsIn K d0 "->" = some (some (.ref f12)))
    (ti0_2 : PySem.W.nsIn K d0 "|" = some (some (.ref f11)))
    (ti0_3 : PySem.W.nsIn K d0 "&" = some (some (.ref f10)))
    (xos0 : (d0 == sysModules) = false)
    (xoq0 : es0.toList.map Fx.keyName = [some ("<->" : Str), some ("->" : Str), some ("|" : Str), some ("&" : Str)])
    (ta1 : PySem.W.nsIn K mainGlobals "LEVELS" = some (some (.ref d1)))
    (tb1 : K.lookup d1 = some ⟨.type "dict", none, .dict es1 dn1, #[]⟩)
    (tc1 : PySem.W.KeysLit w.params es1.toList)
    (ti1_0 : PySem.W.nsIn K d1 "<->" = some (some (.int 1 ui1_0)))
    (ti1_1 : PySem.W.nsIn K d1 "->" = some (some (.int 2 ui1_1)))
    (ti1_2 : PySem.W.nsIn K d1 "|" = some (some (.int 3 ui1_2)))
    (ti1_3 : PySem.W.nsIn K d1 "&" = some (some (.int 4 ui1_3)))
    (xos1 : (d1 == sysModules) = false)
    (xoq1 : es1.toList.map Fx.keyName = [some ("<->" : Str), some ("->" : Str), some ("|" : Str), some ("&" : Str)])
    (ta2 : PySem.W.nsIn K mainGlobals "PREFIXES" = some (some (.ref d2)))
    (tb2 : K.lookup d2 = some ⟨.type "dict", none, .dict es2 dn2, #[]⟩)
    (tc2 : PySem.W.KeysLit w.params es2.toList)
    (ti2_0 : PySem.W.nsIn K d2 "~" = some (some (.ref f0)))
    (ti2_1 : PySem.W.nsIn K d2 "[]" = some (some (.ref f9)))
    (ti2_2 : PySem.W.nsIn K d2 "<>" = some (some (.ref f2)))
    (xos2 : (d2 == sysModules) = false)
    (xoq2 : es2.toList.map Fx.keyName = [some ("~" : Str), some ("[]" : Str), some ("<>" : Str)])
    (xa0 : PySem.W.nsIn K mainGlobals "InvalidText" = some (some (.ref x0)))
    (xb0 : PySem.W.excIn K x0 [.type "ValueError", .type "Exception", .type "BaseException", .type "object"] "ValueError.__new__" = true)
    (xc0 : PySem.W.keepIn K (.ref x0) = true)
    (xd0 : PySem.W.subIn K (.ref x0) (.type "BaseException") = some true)
    (xe0 : PySem.W.typeIn K (.ref x0) = some (.type "type"))
    (xf0 : PySem.W.findIn K (.ref x0) "__getattribute__" = some (some (.builtin "BaseException.__getattribute__")))
    (xg0 : PySem.W.findIn K (.ref x0) "__getattr__" = some none)
    (xh0 : PySem.W.hasDictIn K x0 = true)
    (xi0 : PySem.W.findIn K (.ref x0) "__class__" = some (some (.builtin "object.__class__")))
    (xj0 : PySem.W.specialIn K (.builtin "object.__class__") "__get__" = some (some (.builtin "getset_descriptor.__get__")))
    (xk0 : PySem.W.takesIn K (.builtin "object.__class__") = some true)
    (xl0 : PySem.W.mroIn K x0 (.type "object") = some true)
    (xm0_0 : PySem.W.subIn K (.ref x0) (.ref x0) = some true)
    (xo0_0 : (Value.ref x0 == Value.ref x0) = true) :
    ∃ fd : FuncData, (∀ (s : Shared) (u : Value), BindsTo s fd ⟨[u], []⟩ [("_law_script", u)]) ∧ Fun K "law" "law" st_law fa fd ∧ Ad K mg w := by
  have e := hfa.symm.trans (PySem.W.mg_of X G a19)
  cases e
  have F0 := fun_mk (st := st_neg) l0 c0 k0
  have F1 := fun_mk (st := st_verum) l1 c1 k1
  have F2 := fun_mk (st := st_dia) l2 c2 k2
  have F3 := fun_mk (st := st_iff) l3 c3 k3
  have F4 := fun_mk (st := st_parts) l4 c4 k4
  have F5 := fun_mk (st := st_height) l5 c5 k5
  have F6 := fun_mk (st := st_is_name) l6 c6 k6
  have F7 := fun_mk (st := st_tokens_of) l7 c7 k7
  have F8 := fun_mk (st := st_checked) l8 c8 k8
  have F9 := fun_mk (st := st_boxed) l9 c9 k9
  have F10 := fun_mk (st := st_both) l10 c10 k10
  have F11 := fun_mk (st := st_either) l11 c11 k11
  have F12 := fun_mk (st := st_implied) l12 c12 k12
  have F13 := fun_mk (st := st_parse) l13 c13 k13
  have F14 := fun_mk (st := st_law_pool) l14 c14 k14
  have F15 := fun_mk (st := st_law_spread) l15 c15 k15
  have F16 := fun_mk (st := st_law_draw) l16 c16 k16
  have F17 := fun_mk (st := st_law_same) l17 c17 k17
  have F18 := fun_mk (st := st_law_not) l18 c18 k18
  have F19 := fun_mk (st := st_law) l19 c19 k19
  have F20 := fun_mk (st := st_Reader_init) l20 c20 k20
  have F21 := fun_mk (st := st_Reader_operand) l21 c21 k21
  have F22 := fun_mk (st := st_Reader_reduce) l22 c22 k22
  have F23 := fun_mk (st := st_Reader_sign) l23 c23 k23
  have F24 := fun_mk (st := st_Reader_close) l24 c24 k24
  have L0 : Cls K C0 := ⟨kb0, kc0, kd0, ke0⟩
  refine ⟨_, fun s v => .of_eq rfl, F19, {
    bt := { m_bool := PySem.W.mg_none_of X G z0, m_int := PySem.W.mg_none_of X G z1, m_isinstance := PySem.W.mg_none_of X G z2, m_len := PySem.W.mg_none_of X G z3, m_list := PySem.W.mg_none_of X G z4, m_max := PySem.W.mg_none_of X G z5, m_min := PySem.W.mg_none_of X G z6, m_range := PySem.W.mg_none_of X G z7, m_str := PySem.W.mg_none_of X G z8, m_tuple := PySem.W.mg_none_of X G z9, g_FALSUM := gk_texts (xs := ["falsum"]) (PySem.W.mg_of X G cg0) ch0 (.cons ⟨_, rfl⟩ .nil) (by decide), g_LETTERS := gk_text (PySem.W.mg_of X G cg1), g_MAX_HEIGHT := gk_int (PySem.W.mg_of X G cg2), g_MAX_NAME := gk_int (PySem.W.mg_of X G cg3), g_SIGNS := gk_texts (xs := ["<->", "->", "[]", "<>", "F", "T", "~", "&", "|", "(", ")"]) (PySem.W.mg_of X G cg4) ch4 (.cons ⟨_, rfl⟩ (.cons ⟨_, rfl⟩ (.cons ⟨_, rfl⟩ (.cons ⟨_, rfl⟩ (.cons ⟨_, rfl⟩ (.cons ⟨_, rfl⟩ (.cons ⟨_, rfl⟩ (.cons ⟨_, rfl⟩ (.cons ⟨_, rfl⟩ (.cons ⟨_, rfl⟩ (.cons ⟨_, rfl⟩ .nil))))))))))) (by decide), t_BINARY := ⟨⟨d0, PySem.W.mg_of X G ta0, xos0, (by
      intro q hq
      simp only [t_BINARY, List.mem_cons, List.not_mem_nil, or_false] at hq
      rcases hq with rfl | rfl | rfl | rfl
      · exact ⟨.ref f3, ⟨es0, dn0, .ref f3, tb0, tc0, ti0_0, rfl⟩, kd_fn (PySem.W.mg_of X G a3)⟩
      · exact ⟨.ref f12, ⟨es0, dn0, .ref f12, tb0, tc0, ti0_1, rfl⟩, kd_fn (PySem.W.mg_of X G a12)⟩
      · exact ⟨.ref f11, ⟨es0, dn0, .ref f11, tb0, tc0, ti0_2, rfl⟩, kd_fn (PySem.W.mg_of X G a11)⟩
      · exact ⟨.ref f10, ⟨es0, dn0, .ref f10, tb0, tc0, ti0_3, rfl⟩, kd_fn (PySem.W.mg_of X G a10)⟩
                ), kmiss_of tb0 tc0 xos0 xoq0⟩⟩, t_LEVELS := ⟨⟨d1, PySem.W.mg_of X G ta1, xos1, (by
      intro q hq
      simp only [t_LEVELS, List.mem_cons, List.not_mem_nil, or_false] at hq
      rcases hq with rfl | rfl | rfl | rfl
      · exact ⟨.int 1, ⟨es1, dn1, .int 1 ui1_0, tb1, tc1, ti1_0, ⟨_, rfl⟩⟩, kd_int⟩
      · exact ⟨.int 2, ⟨es1, dn1, .int 2 ui1_1, tb1, tc1, ti1_1, ⟨_, rfl⟩⟩, kd_int⟩
      · exact ⟨.int 3, ⟨es1, dn1, .int 3 ui1_2, tb1, tc1, ti1_2, ⟨_, rfl⟩⟩, kd_int⟩
      · exact ⟨.int 4, ⟨es1, dn1, .int 4 ui1_3, tb1, tc1, ti1_3, ⟨_, rfl⟩⟩, kd_int⟩
                ), kmiss_of tb1 tc1 xos1 xoq1⟩⟩, t_PREFIXES := ⟨⟨d2, PySem.W.mg_of X G ta2, xos2, (by
      intro q hq
      simp only [t_PREFIXES, List.mem_cons, List.not_mem_nil, or_false] at hq
      rcases hq with rfl | rfl | rfl
      · exact ⟨.ref f0, ⟨es2, dn2, .ref f0, tb2, tc2, ti2_0, rfl⟩, kd_fn (PySem.W.mg_of X G a0)⟩
      · exact ⟨.ref f9, ⟨es2, dn2, .ref f9, tb2, tc2, ti2_1, rfl⟩, kd_fn (PySem.W.mg_of X G a9)⟩
      · exact ⟨.ref f2, ⟨es2, dn2, .ref f2, tb2, tc2, ti2_2, rfl⟩, kd_fn (PySem.W.mg_of X G a2)⟩
                ), kmiss_of tb2 tc2 xos2 xoq2⟩⟩, xt := ⟨(by
      intro c hc
      simp only [csL, List.mem_cons, List.not_mem_nil, or_false] at hc
      rcases hc with rfl
      · exact ⟨⟨_, PySem.W.mg_of X G xa0, xb0, xc0, xd0, xe0⟩, fun A hA => (by
          cases hA.symm.trans (PySem.W.mg_of X G xa0)
          exact ⟨xf0, xg0, xd0, xh0, xi0, xj0, xk0, xl0⟩)⟩
                        ), (by
      intro c hc
      simp only [usL, List.mem_cons, List.not_mem_nil, or_false] at hc
      rcases hc with rfl
      · exact ⟨_, PySem.W.mg_of X G xa0⟩
                        ), (by
      intro c hc u hu A B hA hB
      simp only [csL, List.mem_cons, List.not_mem_nil, or_false] at hc
      simp only [usL, List.mem_cons, List.not_mem_nil, or_false] at hu
      rcases hc with rfl
      · cases hA.symm.trans (PySem.W.mg_of X G xa0)
        rcases hu with rfl
        · cases hB.symm.trans (PySem.W.mg_of X G xa0)
          have z := exm_both xd0 xh0 xe0 xm0_0 xo0_0 (by decide)
          exact ⟨z.1.trans (by decide +kernel), z.2.trans (by decide +kernel)⟩
                        )⟩, k_Reader := ⟨C0, PySem.W.mg_of X G ka0, L0, (by
      intro f hf
      simp only [List.mem_cons, List.not_mem_nil, or_false] at hf
      rcases hf with rfl
      · exact kh0_0
                        )⟩ },
    a_f_neg := ⟨_, _, PySem.W.mg_of X G a0, F0, F0.binds (ps := ["a"]) (fun _ _ _ _ _ _ us hl => match us, hl with | [_], _ => rfl)⟩,
    a_f_verum := ⟨_, _, PySem.W.mg_of X G a1, F1, F1.binds (ps := []) (fun _ _ _ _ _ _ us hl => match us, hl with | [], _ => rfl)⟩,
    a_f_dia := ⟨_, _, PySem.W.mg_of X G a2, F2, F2.binds (ps := ["a"]) (fun _ _ _ _ _ _ us hl => match us, hl with | [_], _ => rfl)⟩,
    a_f_iff := ⟨_, _, PySem.W.mg_of X G a3, F3, F3.binds (ps := ["a", "b"]) (fun _ _ _ _ _ _ us hl => match us, hl with | [_, _], _ => rfl)⟩,
    a_f_parts := ⟨_, _, PySem.W.mg_of X G a4, F4, F4.binds (ps := ["a"]) (fun _ _ _ _ _ _ us hl => match us, hl with | [_], _ => rfl)⟩,
    a_f_height := ⟨_, _, PySem.W.mg_of X G a5, F5, F5.binds (ps := ["a"]) (fun _ _ _ _ _ _ us hl => match us, hl with | [_], _ => rfl)⟩,
    a_f_is_name := ⟨_, _, PySem.W.mg_of X G a6, F6, F6.binds (ps := ["text"]) (fun _ _ _ _ _ _ us hl => match us, hl with | [_], _ => rfl)⟩,
    a_f_tokens_of := ⟨_, _, PySem.W.mg_of X G a7, F7, F7.binds (ps := ["text"]) (fun _ _ _ _ _ _ us hl => match us, hl with | [_], _ => rfl)⟩,
    a_f_checked := ⟨_, _, PySem.W.mg_of X G a8, F8, F8.binds (ps := ["a"]) (fun _ _ _ _ _ _ us hl => match us, hl with | [_], _ => rfl)⟩,
    a_f_boxed := ⟨_, _, PySem.W.mg_of X G a9, F9, F9.binds (ps := ["a"]) (fun _ _ _ _ _ _ us hl => match us, hl with | [_], _ => rfl)⟩,
    a_f_both := ⟨_, _, PySem.W.mg_of X G a10, F10, F10.binds (ps := ["a", "b"]) (fun _ _ _ _ _ _ us hl => match us, hl with | [_, _], _ => rfl)⟩,
    a_f_either := ⟨_, _, PySem.W.mg_of X G a11, F11, F11.binds (ps := ["a", "b"]) (fun _ _ _ _ _ _ us hl => match us, hl with | [_, _], _ => rfl)⟩,
    a_f_implied := ⟨_, _, PySem.W.mg_of X G a12, F12, F12.binds (ps := ["a", "b"]) (fun _ _ _ _ _ _ us hl => match us, hl with | [_, _], _ => rfl)⟩,
    a_f_parse := ⟨_, _, PySem.W.mg_of X G a13, F13, F13.binds (ps := ["text"]) (fun _ _ _ _ _ _ us hl => match us, hl with | [_], _ => rfl)⟩,
    a_f_law_pool := ⟨_, _, PySem.W.mg_of X G a14, F14, F14.binds (ps := ["_law_script"]) (fun _ _ _ _ _ _ us hl => match us, hl with | [_], _ => rfl)⟩,
    a_f_law_spread := ⟨_, _, PySem.W.mg_of X G a15, F15, F15.binds (ps := ["_law_cell"]) (fun _ _ _ _ _ _ us hl => match us, hl with | [_], _ => rfl)⟩,
    a_f_law_draw := ⟨_, _, PySem.W.mg_of X G a16, F16, F16.binds (ps := ["_law_pool_here", "_law_many"]) (fun _ _ _ _ _ _ us hl => match us, hl with | [_, _], _ => rfl)⟩,
    a_f_law_same := ⟨_, _, PySem.W.mg_of X G a17, F17, F17.binds (ps := ["_law_actual", "_law_due"]) (fun _ _ _ _ _ _ us hl => match us, hl with | [_, _], _ => rfl)⟩,
    a_f_law_not := ⟨_, _, PySem.W.mg_of X G a18, F18, F18.binds (ps := ["_law_a"]) (fun _ _ _ _ _ _ us hl => match us, hl with | [_], _ => rfl)⟩,
    a_f_law := ⟨_, _, PySem.W.mg_of X G a19, F19, F19.binds (ps := ["_law_script"]) (fun _ _ _ _ _ _ us hl => match us, hl with | [_], _ => rfl)⟩,
    a_f_Reader_init := ⟨C0, _, _, PySem.W.mg_of X G ka0, ⟨kf0, a20, i20, kg0⟩, F20, F20.binds (ps := ["self"]) (fun _ _ _ _ _ _ us hl => match us, hl with | [_], _ => rfl)⟩,
    a_f_Reader_operand := ⟨C0, _, _, PySem.W.mg_of X G ka0, L0, ⟨a21, i21, k21⟩, F21, F21.binds (ps := ["self", "a"]) (fun _ _ _ _ _ _ us hl => match us, hl with | [_, _], _ => rfl)⟩,
    a_f_Reader_reduce := ⟨C0, _, _, PySem.W.mg_of X G ka0, L0, ⟨a22, i22, k22⟩, F22, F22.binds (ps := ["self", "level"]) (fun _ _ _ _ _ _ us hl => match us, hl with | [_, _], _ => rfl)⟩,
    a_f_Reader_sign := ⟨C0, _, _, PySem.W.mg_of X G ka0, L0, ⟨a23, i23, k23⟩, F23, F23.binds (ps := ["self", "token"]) (fun _ _ _ _ _ _ us hl => match us, hl with | [_, _], _ => rfl)⟩,
    a_f_Reader_close := ⟨C0, _, _, PySem.W.mg_of X G ka0, L0, ⟨a24, i24, k24⟩, F24, F24.binds (ps := ["self"]) (fun _ _ _ _ _ _ us hl => match us, hl with | [_], _ => rfl)⟩,
    a_f_Reader := ⟨C0, PySem.W.mg_of X G ka0, kg0⟩ }⟩

theorem fin_ok {P : Program} {w : World} {K : PySem.W.Frag} {mg : Str → Option Value} {fa : Addr} (h : ∃ fd : FuncData, (∀ (s : Shared) (u : Value), BindsTo s fd ⟨[u], []⟩ [("_law_script", u)]) ∧ Fun K "law" "law" st_law fa fd ∧ Ad K mg w) :
    ∃ fd : FuncData, (∀ (s : Shared) (u : Value), BindsTo s fd ⟨[u], []⟩ [("_law_script", u)]) ∧ ∀ base : Heap, K.In base → base.Ns mainGlobals mg → FnOk P w K mg base (L2.CX P w) 90 fa fd ["_law_script"] (spF ⟨K, mg, w⟩ (ev 90 .f_law) 1) := by
  obtain ⟨fd, hb, F, T⟩ := h
  exact ⟨fd, hb, fun base _ _ => ok_law T.bt (all_ok T 89) F⟩
end K
namespace K
open PySem PySem.Spec L2 Fx
/-! ### the reader of formulas, plain -/
inductive Pre where
  | neg | box | dia
  deriving DecidableEq
inductive Bi where
  | iff | imp | or | and
  deriving DecidableEq
inductive Sg where
  | p (x : Pre) | b (x : Bi)
  deriving DecidableEq
def Pre.s : Pre → Str
  | .neg => "~"
  | .box => "[]"
  | .dia => "<>"
def Bi.s : Bi → Str
  | .iff => "<->"
  | .imp => "->"
  | .or => "|"
  | .and => "&"
def Sg.s : Sg → Str
  | .p x => x.s
  | .b x => x.s
def Pre.app : Pre → Fm → Fm
  | .neg, a => .imp a .fal
  | .box, a => .box a
  | .dia, a => .imp (.box (.imp a .fal)) .fal
def Bi.app : Bi → Fm → Fm → Fm
  | .iff, a, b => .and (.imp a b) (.imp b a)
  | .imp, a, b => .imp a b
  | .or, a, b => .or a b
  | .and, a, b => .and a b
def Bi.lev : Bi → Nat
  | .iff => 1
  | .imp => 2
  | .or => 3
  | .and => 4
/-- by how much a sign makes its left neighbours wait -/
def Bi.cut : Bi → Nat
  | .imp => 3
  | x => x.lev
inductive Rs (α : Type) where
  | ok (a : α)
  | bad
  | no
def Rs.bind {α β : Type} (r : Rs α) (f : α → Rs β) : Rs β := match r with
  | .ok a => f a
  | .bad => .bad
  | .no => .no
@[simp] theorem Rs.bind_ok {α β : Type} {a : α} {f : α → Rs β} : (Rs.ok a).bind f = f a := rfl
@[simp] theorem Rs.bind_bad {α β : Type} {f : α → Rs β} : (Rs.bad : Rs α).bind f = .bad := rfl
@[simp] theorem Rs.bind_no {α β : Type} {f : α → Rs β} : (Rs.no : Rs α).bind f = .no := rfl
def chk (a : Fm) : Rs Fm := if a.ht ≤ 60 then .ok a else .bad
theorem chk_ok {a : Fm} (h : a.ht ≤ 60) : chk a = .ok a := if_pos h
/-- an operand: the prefixes that wait for it (the last sign stands first) -/
def opnd : Fm → List Sg → Rs (Fm × List Sg)
  | a, [] => .ok (a, [])
  | a, .b x :: r => .ok (a, .b x :: r)
  | a, .p x :: r => (chk (x.app a)).bind fun c => opnd c r
def red (k : Nat) : List Fm → List Sg → Rs (List Fm × List Sg)
  | o, [] => .ok (o, [])
  | _, .p _ :: _ => .no
  | o, .b x :: r => if k ≤ x.lev then (match o with
      | b :: a :: o => (chk (x.app a b)).bind fun c => red k (c :: o) r
      | _ => .no) else .ok (o, .b x :: r)
inductive Tk where
  | pre (x : Pre) | bin (x : Bi) | op | cl | fal | ver | nm (x : Str)
def Tk.s : Tk → Str
  | .pre x => x.s
  | .bin x => x.s
  | .op => "("
  | .cl => ")"
  | .fal => "F"
  | .ver => "T"
  | .nm x => x
abbrev Fr := List Fm × List Sg
abbrev Ps := List Fr × Bool
/-- an operand for the top frame -/
def give (a : Fm) (f : Fr) (fs : List Fr) : Rs Ps := (opnd a f.2).bind fun c => .ok ((c.1 :: f.1, c.2) :: fs, false)
/-- the top frame's formula -/
def clos (f : Fr) : Rs Fm := (red 0 f.1 f.2).bind fun c => match c.1.getLast? with
  | some a => .ok a
  | none => .no
def leafOf : Tk → Option Fm
  | .fal => some .fal
  | .ver => some (.imp .fal .fal)
  | .nm x => some (.var x)
  | _ => none
def step : Ps → Tk → Rs Ps
  | ([], _), _ => .no
  | (f :: fs, true), t => (match t with
    | .pre x => if 240 < f.2.length then .bad else .ok ((f.1, .p x :: f.2) :: fs, true)
    | .op => if 60 < fs.length + 1 then .bad else .ok (([], []) :: f :: fs, true)
    | .bin _ => .bad
    | .cl => .bad
    | .fal => give .fal f fs
    | .ver => give (.imp .fal .fal) f fs
    | .nm x => give (.var x) f fs)
  | (f :: fs, false), t => (match t with
    | .cl => (match fs with
      | [] => .bad
      | g :: fs => (clos f).bind fun a => give a g fs)
    | .bin x => if x = .iff ∧ Sg.b .iff ∈ f.2 then .bad else (red x.cut f.1 f.2).bind fun c => .ok ((c.1, .b x :: c.2) :: fs, true)
    | _ => .bad)
def run : List Tk → Ps → Rs Ps
  | [], s => .ok s
  | t :: ts, s => (step s t).bind (run ts)
theorem run_app : ∀ (u v : List Tk) (s : Ps), run (u ++ v) s = (run u s).bind (run v)
  | [], v, s => rfl
  | t :: u, v, s => by
    show (step s t).bind (run (u ++ v)) = ((step s t).bind (run u)).bind (run v)
    cases step s t with
    | ok s' => exact run_app u v s'
    | bad => rfl
    | no => rfl
/-- the formula of the tokens -/
def prs (ts : List Tk) : Rs Fm := (run ts ([([], [])], true)).bind fun s => match s with
  | ([f], false) => clos f
  | ([], _) => .no
  | _ => .bad
/-! ### what is written is read -/
inductive Gr : Nat → Nat → Fm → List Tk → Prop where
  | var {x : Str} {d : Nat} : Gr 6 d (.var x) [.nm x]
  | fal {d : Nat} : Gr 6 d .fal [.fal]
  | ver {d : Nat} : Gr 6 d (.imp .fal .fal) [.ver]
  | br {d : Nat} {a : Fm} {ws : List Tk} : Gr 1 d a ws → Gr 6 (d + 1) a (.op :: (ws ++ [.cl]))
  | pre {d : Nat} {x : Pre} {a : Fm} {ws : List Tk} : Gr 5 d a ws → Gr 5 d (x.app a) (.pre x :: ws)
  | and {d : Nat} {a b : Fm} {u v : List Tk} : Gr 4 d a u → Gr 5 d b v → Gr 4 d (.and a b) (u ++ .bin .and :: v)
  | or {d : Nat} {a b : Fm} {u v : List Tk} : Gr 3 d a u → Gr 4 d b v → Gr 3 d (.or a b) (u ++ .bin .or :: v)
  | imp {d : Nat} {a b : Fm} {u v : List Tk} : Gr 3 d a u → Gr 2 d b v → Gr 2 d (.imp a b) (u ++ .bin .imp :: v)
  | iff {d : Nat} {a b : Fm} {u v : List Tk} : Gr 2 d a u → Gr 2 d b v → Gr 1 d (.and (.imp a b) (.imp b a)) (u ++ .bin .iff :: v)
  | up {k d : Nat} {a : Fm} {ws : List Tk} : 1 ≤ k → Gr (k + 1) d a ws → Gr k d a ws
  | mono {k d d' : Nat} {a : Fm} {ws : List Tk} : Gr k d a ws → d ≤ d' → Gr k d' a ws
/-- what may wait ahead of a formula of a level -/
def Pk (k : Nat) (g : List Sg) : Prop := g = [] ∨ ∃ x r, g = .b x :: r ∧ (k = 4 → x.lev < 4) ∧ (k = 3 → x.lev < 3) ∧ (k = 2 → x.lev < 3) ∧ k ≠ 1
theorem red_stop {k : Nat} {o : List Fm} {g : List Sg} (h : g = [] ∨ ∃ x r, g = .b x :: r ∧ x.lev < k) : red k o g = .ok (o, g) := by
  rcases h with rfl | ⟨x, r, rfl, h⟩
  · cases o <;> rfl
  · unfold red
    rw [if_neg (by omega)]
theorem red_go {k : Nat} {o : List Fm} {g : List Sg} {x : Bi} {a b : Fm} (h : k ≤ x.lev) (hc : (x.app a b).ht ≤ 60) : red k (b :: a :: o) (.b x :: g) = red k (x.app a b :: o) g := by
  rw [red, if_pos h]
  simp only [chk_ok hc, Rs.bind_ok]
theorem opnd_b {a : Fm} {g : List Sg} (h : g = [] ∨ ∃ x r, g = .b x :: r) : opnd a g = .ok (a, g) := by
  rcases h with rfl | ⟨x, r, rfl⟩ <;> rfl
theorem pre_ht (x : Pre) (a : Fm) : a.ht + 1 ≤ (x.app a).ht := by
  cases x <;> simp only [Pre.app, Fm.ht] <;> omega
theorem bi_ht (x : Bi) (a b : Fm) : a.ht + 1 ≤ (x.app a b).ht ∧ b.ht + 1 ≤ (x.app a b).ht := by
  cases x <;> simp only [Bi.app, Fm.ht] <;> omega
/-- what's left behind a formula of a level -/
structure Left (k : Nat) (a : Fm) (o : List Fm) (g : List Sg) (o' : List Fm) (g' : List Sg) : Prop where
  red : ∀ j, j ≤ k → red j o' g' = red j (a :: o) g
  iff : 2 ≤ k → Sg.b .iff ∈ g' → Sg.b .iff ∈ g
theorem two_run {k kl kr : Nat} {x : Bi} {a b : Fm} {u v : List Tk} {o : List Fm} {g : List Sg} {fs : List Fr} {o1 : List Fm} {g1 : List Sg}
    (hu : run u ((o, g) :: fs, true) = .ok ((o1, g1) :: fs, false)) (lu : Left kl a o g o1 g1) (hi : ¬ (x = .iff ∧ Sg.b .iff ∈ g1)) (hk : x.cut ≤ kl) (hs : g = [] ∨ ∃ y r, g = .b y :: r ∧ y.lev < x.cut)
    {o2 : List Fm} {g2 : List Sg} (hv : run v ((a :: o, .b x :: g) :: fs, true) = .ok ((o2, g2) :: fs, false)) (lv : Left kr b (a :: o) (.b x :: g) o2 g2) (hkr : k ≤ kr) (hkx : k ≤ x.lev) (hx : 2 ≤ k → x ≠ .iff) (h2 : 2 ≤ k → 2 ≤ kr) (hc : (x.app a b).ht ≤ 60) :
    run (u ++ .bin x :: v) ((o, g) :: fs, true) = .ok ((o2, g2) :: fs, false) ∧ Left k (x.app a b) o g o2 g2 := by
  refine ⟨?_, fun j hj => ?_, fun hk2 h => ?_⟩
  · rw [run_app, hu]
    show (step ((o1, g1) :: fs, false) (.bin x)).bind (run v) = _
    have e : step ((o1, g1) :: fs, false) (.bin x) = .ok ((a :: o, .b x :: g) :: fs, true) := by
      show (if x = .iff ∧ Sg.b .iff ∈ g1 then Rs.bad else (K.red x.cut o1 g1).bind fun c => .ok ((c.1, .b x :: c.2) :: fs, true)) = _
      rw [if_neg hi, lu.red _ hk, red_stop hs]
      rfl
    rw [e]
    exact hv
  · rw [lv.red j (by omega), red_go (by omega) hc]
  · have h3 := lv.iff (h2 hk2) h
    rcases List.mem_cons.mp h3 with e | h3
    · cases e
      exact absurd rfl (hx hk2)
    · exact h3
theorem gr_run {k d : Nat} {a : Fm} {ws : List Tk} (h : Gr k d a ws) : ∀ (o : List Fm) (g : List Sg) (fs : List Fr), a.ht ≤ 60 → g.length + a.ht ≤ 200 → fs.length + d ≤ 60 →
    (5 ≤ k → run ws ((o, g) :: fs, true) = give a (o, g) fs) ∧ (k ≤ 4 → Pk k g → ∃ o' g', run ws ((o, g) :: fs, true) = .ok ((o', g') :: fs, false) ∧ Left k a o g o' g') := by
  induction h with
  | var => exact fun o g fs _ _ _ => ⟨fun _ => by simp only [run, step]; cases give _ (o, g) fs <;> rfl, fun h => by omega⟩
  | fal => exact fun o g fs _ _ _ => ⟨fun _ => by simp only [run, step]; cases give _ (o, g) fs <;> rfl, fun h => by omega⟩
  | ver => exact fun o g fs _ _ _ => ⟨fun _ => by simp only [run, step]; cases give _ (o, g) fs <;> rfl, fun h => by omega⟩
  | br h ih =>
    rename_i d a ws
    intro o g fs h1 h2 h3
    refine ⟨fun _ => ?_, fun h => by omega⟩
    obtain ⟨o', g', r1, l1⟩ := (ih [] [] ((o, g) :: fs) h1 (by simp only [List.length_nil]; omega) (by simp only [List.length_cons]; omega)).2 (by decide) (.inl rfl)
    have e1 : step ((o, g) :: fs, true) .op = .ok (([], []) :: (o, g) :: fs, true) := by
      show (if 60 < fs.length + 1 then Rs.bad else .ok (([], []) :: (o, g) :: fs, true)) = _
      rw [if_neg (by omega)]
    show (step ((o, g) :: fs, true) .op).bind (run (ws ++ [.cl])) = _
    rw [e1, Rs.bind_ok, run_app, r1, Rs.bind_ok]
    have e2 : clos (o', g') = .ok a := by
      unfold clos
      rw [l1.red 0 (by omega)]
      rfl
    show (step ((o', g') :: (o, g) :: fs, false) .cl).bind (run []) = _
    have e3 : step ((o', g') :: (o, g) :: fs, false) .cl = give a (o, g) fs := by
      show (clos (o', g')).bind (fun a => give a (o, g) fs) = _
      rw [e2]
      rfl
    rw [e3]
    cases give a (o, g) fs <;> rfl
  | pre h ih =>
    rename_i d x a ws
    intro o g fs h1 h2 h3
    have hp := pre_ht x a
    refine ⟨fun _ => ?_, fun h => by omega⟩
    have r := (ih o (.p x :: g) fs (by omega) (by simp only [List.length_cons]; omega) h3).1 (by decide)
    have e1 : step ((o, g) :: fs, true) (.pre x) = .ok ((o, .p x :: g) :: fs, true) := by
      show (if 240 < g.length then Rs.bad else .ok ((o, .p x :: g) :: fs, true)) = _
      rw [if_neg (by omega)]
    show (step ((o, g) :: fs, true) (.pre x)).bind (run ws) = _
    rw [e1, Rs.bind_ok, r]
    unfold give
    show ((chk (x.app a)).bind fun c => opnd c g).bind _ = _
    rw [chk_ok h1]
    rfl
  | and hu hv iu iv =>
    rename_i d a b u v
    intro o g fs h1 h2 h3
    have hb := bi_ht .and a b
    have hb' : a.ht + 1 ≤ (Fm.and a b).ht ∧ b.ht + 1 ≤ (Fm.and a b).ht := hb
    refine ⟨fun h => by omega, fun _ hp => ?_⟩
    obtain ⟨o1, g1, r1, l1⟩ := (iu o g fs (by omega) (by omega) h3).2 (by decide) hp
    have r2 := (iv (a :: o) (.b .and :: g) fs (by omega) (by simp only [List.length_cons]; omega) h3).1 (by decide)
    have r2' : run v ((a :: o, .b .and :: g) :: fs, true) = .ok ((b :: a :: o, .b .and :: g) :: fs, false) := r2
    exact ⟨_, _, two_run (k := 4) (kl := 4) (kr := 4) (x := .and) r1 l1 (fun c => by cases c.1) (by decide) (hp.imp id fun ⟨x, r, e, q, _⟩ => ⟨x, r, e, q rfl⟩) r2' ⟨fun j _ => rfl, fun _ h => h⟩ (by decide) (by decide) (fun _ c => by cases c) (fun _ => by decide) h1⟩
  | or hu hv iu iv =>
    rename_i d a b u v
    intro o g fs h1 h2 h3
    have hb' : a.ht + 1 ≤ (Fm.or a b).ht ∧ b.ht + 1 ≤ (Fm.or a b).ht := bi_ht .or a b
    refine ⟨fun h => by omega, fun _ hp => ?_⟩
    obtain ⟨o1, g1, r1, l1⟩ := (iu o g fs (by omega) (by omega) h3).2 (by decide) hp
    obtain ⟨o2, g2, r2, l2⟩ := (iv (a :: o) (.b .or :: g) fs (by omega) (by simp only [List.length_cons]; omega) h3).2 (by decide) (.inr ⟨.or, g, rfl, by decide, by decide, by decide, by decide⟩)
    exact ⟨_, _, two_run (k := 3) (kl := 3) (kr := 4) (x := .or) r1 l1 (fun c => by cases c.1) (by decide) (hp.imp id fun ⟨x, r, e, _, q, _⟩ => ⟨x, r, e, q rfl⟩) r2 l2 (by decide) (by decide) (fun _ c => by cases c) (fun _ => by decide) h1⟩
  | imp hu hv iu iv =>
    rename_i d a b u v
    intro o g fs h1 h2 h3
    have hb' : a.ht + 1 ≤ (Fm.imp a b).ht ∧ b.ht + 1 ≤ (Fm.imp a b).ht := bi_ht .imp a b
    refine ⟨fun h => by omega, fun _ hp => ?_⟩
    obtain ⟨o1, g1, r1, l1⟩ := (iu o g fs (by omega) (by omega) h3).2 (by decide) (hp.imp id fun ⟨x, r, e, _, _, q, _⟩ => ⟨x, r, e, fun e => absurd e (by decide), fun _ => q rfl, fun e => absurd e (by decide), by decide⟩)
    obtain ⟨o2, g2, r2, l2⟩ := (iv (a :: o) (.b .imp :: g) fs (by omega) (by simp only [List.length_cons]; omega) h3).2 (by decide) (.inr ⟨.imp, g, rfl, by decide, by decide, by decide, by decide⟩)
    exact ⟨_, _, two_run (k := 2) (kl := 3) (kr := 2) (x := .imp) r1 l1 (fun c => by cases c.1) (by decide) (hp.imp id fun ⟨x, r, e, _, _, q, _⟩ => ⟨x, r, e, q rfl⟩) r2 l2 (by decide) (by decide) (fun _ c => by cases c) (fun _ => by decide) h1⟩
  | iff hu hv iu iv =>
    rename_i d a b u v
    intro o g fs h1 h2 h3
    have hb' : a.ht + 1 ≤ (Bi.app .iff a b).ht ∧ b.ht + 1 ≤ (Bi.app .iff a b).ht := bi_ht .iff a b
    have h1' : (Bi.app .iff a b).ht ≤ 60 := h1
    have h2' : g.length + (Bi.app .iff a b).ht ≤ 200 := h2
    refine ⟨fun h => by omega, fun _ hp => ?_⟩
    have g0 : g = [] := hp.elim id fun ⟨x, r, e, _, _, _, q⟩ => absurd rfl q
    subst g0
    obtain ⟨o1, g1, r1, l1⟩ := (iu o [] fs (by omega) (by simp only [List.length_nil]; omega) h3).2 (by decide) (.inl rfl)
    obtain ⟨o2, g2, r2, l2⟩ := (iv (a :: o) [.b .iff] fs (by omega) (by simp only [List.length_cons, List.length_nil]; omega) h3).2 (by decide) (.inr ⟨.iff, [], rfl, by decide, by decide, by decide, by decide⟩)
    exact ⟨_, _, two_run (k := 1) (kl := 2) (kr := 2) (x := .iff) r1 l1 (fun c => absurd (l1.iff (by decide) c.2) (by simp)) (by decide) (.inl rfl) r2 l2 (by decide) (by decide) (fun h => by omega) (fun h => by omega) h1⟩
  | up hk h ih =>
    rename_i k d a ws
    intro o g fs h1 h2 h3
    obtain ⟨i1, i2⟩ := ih o g fs h1 h2 h3
    refine ⟨fun h => i1 (by omega), fun h4 hp => ?_⟩
    by_cases c : k = 4
    · subst c
      have nb : g = [] ∨ ∃ x r, g = .b x :: r := hp.imp id fun ⟨x, r, e, _⟩ => ⟨x, r, e⟩
      refine ⟨a :: o, g, ?_, fun j _ => rfl, fun _ h => h⟩
      rw [i1 (by decide)]
      unfold give
      rw [opnd_b nb]
      rfl
    · obtain ⟨o', g', r, l⟩ := i2 (by omega) (hp.imp id fun ⟨x, r, e, q4, q3, q2, q1⟩ => ⟨x, r, e, fun e4 => by have := q3 (by omega); omega, fun e3 => q2 (by omega), fun e2 => absurd (by omega) q1, by omega⟩)
      exact ⟨o', g', r, fun j hj => l.red j (by omega), fun h2 => l.iff (by omega)⟩
  | mono h hd ih =>
    intro o g fs h1 h2 h3
    exact ih o g fs h1 h2 (by omega)
theorem gr_prs {d : Nat} {a : Fm} {ws : List Tk} (h : Gr 1 d a ws) (h1 : a.ht ≤ 60) (h2 : d ≤ 60) : prs ws = .ok a := by
  obtain ⟨o', g', r, l⟩ := (gr_run h [] [] [] h1 (by simp only [List.length_nil]; omega) (by simpa using h2)).2 (by decide) (.inl rfl)
  unfold prs
  rw [r]
  show clos (o', g') = _
  unfold clos
  rw [l.red 0 (by omega)]
  rfl
section
variable {n : Nat} {ro w : List D} {env : Fx.Env}
theorem x_ml0 {g : List D → D → M D} {fo : EF} {o : D} {ds : List D} {w1 : List D} (h : fo env ro w = .ok o w1) (hs : see ro w1 o = .lst ds) : cMl0 g fo env ro w = g [] o ro w1 := by
  show M.bind (fo env) _ ro w = _
  rw [x_bind, h, an_ok]
  simp only [x_bind, x_see, an_ok, hs]
theorem pop_lst {j : Nat} {d : D} {ds : List D} (h : w[j]? = some (.lst (ds ++ [d]))) : gPop [] (.ref (ro.length + j)) ro w = .ok d (w.set j (.lst ds)) := by
  unfold gPop mMod
  simp [h]
theorem see_at {j : Nat} {d : D} (h : w[j]? = some d) : see ro w (.ref (ro.length + j)) = d := by
  rw [see_ref, List.getElem?_append_right (by omega), Nat.add_sub_cancel_left, h]
  rfl
theorem ix_last {ds : List D} {d : D} : gIx (.lst (ds ++ [d])) (.int (-1)) ro w = .ok d w := by
  rw [ix_lst, atI_lastG, List.getLast?_append]
  rfl
end
theorem e_parts {k n : Nat} (h : 0 < n) : F1 gP k (ev n .f_parts) := by
  obtain ⟨m, rfl⟩ : ∃ m, n = m + 1 := ⟨n - 1, by omega⟩
  exact Pw.parts_ok
theorem e_height : ∀ {k n : Nat}, k + 1 < n → F1 gHt k (ev n .f_height)
  | k, n + 1, h => Pw.height_ok (c := ev n .f_height) (e_parts (by omega)) fun k' e => e_height (by omega)
abbrev opD (o : List Fm) : D := .lst (o.reverse.map Fm.toD)
abbrev sgD (g : List Sg) : D := .lst (g.reverse.map fun s => .str s.s)
theorem opD_cons {a : Fm} {o : List Fm} : opD (a :: o) = .lst (o.reverse.map Fm.toD ++ [a.toD]) := by simp [opD]
theorem sgD_cons {s : Sg} {g : List Sg} : sgD (s :: g) = .lst ((g.reverse.map fun s => .str s.s) ++ [.str s.s]) := by simp [sgD]
theorem has_pre {s : Sg} : tabHas t_PREFIXES s.s = match s with
    | .p _ => true
    | .b _ => false := by
  cases s with
  | p x => cases x <;> rfl
  | b x => cases x <;> rfl
theorem pre_fn (x : Pre) : ∃ z : Str, tabV t_PREFIXES x.s = some (.fn z) ∧ z = (match x with
    | .neg => ("neg" : Str)
    | .box => "boxed"
    | .dia => "dia") := by cases x <;> exact ⟨_, rfl, rfl⟩
theorem lev_at (x : Bi) : tabV t_LEVELS x.s = some (.int (x.lev : Nat)) := by cases x <;> rfl
section
variable {n : Nat} {ro w : List D} {env : Fx.Env}
theorem e_checked {a : Fm} (h : a.ht + 3 < n) : ev (n + 1) .f_checked [a.toD] ro w = match chk a with
    | .ok _ => .ok a.toD w
    | _ => .exn "InvalidText" [] [] w := by
  have eh := fun w => e_height (k := a.ht) (n := n) (by omega) a ro w (Nat.le_refl _)
  have sf : ∀ w, see ro w a.toD = a.toD := fun w => see_fm
  rw [q_checked, x_def]
  simp only [List.length_cons, List.length_nil, Nat.zero_add, Nat.reduceAdd, if_true, List.map_cons, List.map_nil, Nat.reduceSub, List.replicate, List.cons_append, List.nil_append, List.append_nil]
  unfold b_checked chk
  rw [x_seq, x_ifS]
  have g60 : ∀ w, gGt (.int (a.ht : Int)) g_MAX_HEIGHT ro w = .ok (.bl (decide (60 < (a.ht : Int)))) w := fun w => gt_int
  have s60 : ∀ w, see ro w g_MAX_HEIGHT = g_MAX_HEIGHT := fun _ => rfl
  simp only [x_and, x_or, x_not, x_andT, x_orT, x_notT, x_tru, x_test, x_bin, x_un, x_tup, x_lst, x_call, x_call0, x_args, x_args0, x_var, x_k, x_one, x_nil, x_if, List.getElem?_cons_zero, List.getElem?_cons_succ, ofO_ss, an_ok, List.length_cons, List.length_nil, Nat.zero_add, Nat.reduceAdd, if_true, Bool.false_eq_true, if_false, see_int, see_str, see_bl, see_lst, see_tup, see_non, bool_bl, truth_bl, st_ok, oan_nx, oan_rt, oan_bk, oan_ct, fin_rt, fin_nx, tn_nx, tn_rt, tn_ct, tn_bk, andV_bl, orV_bl, notV_bl, List.set_cons_succ, List.set_cons_zero, Bool.not_true, Bool.not_false, Bool.true_and, add_int, sub_int, eq_int, ne_int, lt_int, le_int, gt_int, ge_int, int_int, int_bl, len_lst, len_tup, List.map_cons, List.map_nil, List.length_map, sf, eh, s60, g60]
  by_cases c : a.ht ≤ 60
  · rw [if_pos c, decide_eq_false (by omega), if_neg (by decide)]
    rfl
  · rw [if_neg c, decide_eq_true (by omega), if_pos rfl]
    rfl
theorem e_neg {a : Fm} : ev (n + 1) .f_neg [a.toD] ro w = .ok (Pre.neg.app a).toD w := by
  rw [q_neg, x_def]
  rfl
theorem e_boxed {a : Fm} : ev (n + 1) .f_boxed [a.toD] ro w = .ok (Pre.box.app a).toD w := by
  rw [q_boxed, x_def]
  rfl
theorem e_dia {a : Fm} : ev (n + 2) .f_dia [a.toD] ro w = .ok (Pre.dia.app a).toD w := by
  rw [q_dia, x_def]
  simp only [List.length_cons, List.length_nil, Nat.zero_add, Nat.reduceAdd, if_true, List.map_cons, List.map_nil, Nat.reduceSub, List.replicate, List.cons_append, List.nil_append, List.append_nil]
  unfold b_dia
  have q1 : ∀ w, ev (n + 1) .f_neg [a.toD] ro w = .ok (Pre.neg.app a).toD w := fun w => e_neg
  have q2 : ∀ w, ev (n + 1) .f_neg [.tup [.str "box", (Pre.neg.app a).toD]] ro w = .ok (Pre.dia.app a).toD w := fun w => e_neg (a := .box (Pre.neg.app a))
  rw [x_ret]
  simp only [x_and, x_or, x_not, x_andT, x_orT, x_notT, x_tru, x_test, x_bin, x_un, x_tup, x_lst, x_call, x_call0, x_args, x_args0, x_var, x_k, x_one, x_nil, x_if, List.getElem?_cons_zero, List.getElem?_cons_succ, ofO_ss, an_ok, List.length_cons, List.length_nil, Nat.zero_add, Nat.reduceAdd, if_true, Bool.false_eq_true, if_false, see_int, see_str, see_bl, see_lst, see_tup, see_non, bool_bl, truth_bl, st_ok, oan_nx, oan_rt, oan_bk, oan_ct, fin_rt, fin_nx, tn_nx, tn_rt, tn_ct, tn_bk, andV_bl, orV_bl, notV_bl, List.set_cons_succ, List.set_cons_zero, Bool.not_true, Bool.not_false, Bool.true_and, add_int, sub_int, eq_int, ne_int, lt_int, le_int, gt_int, ge_int, int_int, int_bl, len_lst, len_tup, List.map_cons, List.map_nil, List.length_map, q1, q2]
end
theorem set_same {w : List D} {j : Nat} {d : D} (h : w[j]? = some d) : w.set j d = w := by
  apply List.ext_getElem?
  intro i
  by_cases c : i = j
  · subst c
    have hl : i < w.length := by
      rcases Nat.lt_or_ge i w.length with q | q
      · exact q
      · rw [List.getElem?_eq_none q] at h
        cases h
    rw [List.getElem?_set_self hl, h]
  · rw [List.getElem?_set_ne (fun e => c e.symm)]
section
variable {n : Nat} {ro : List D}
def condO : Fx.Env → M Bool := cAndT (cTest (cBin gGt (cCall (one gLen) (cArgs [cVar 3])) (cK (.int 0)))) (cTest (cTabG t_PREFIXES (cBin gIx (cVar 3) (cUn gNeg (cK (.int 1))))))
def bodyO (n : Nat) : SF := sSet 1 (cCall (fun ds => if ds.length = 1 then ev n .f_checked ds else M.no) (cArgs [cCallE [("neg", 1, ev n .f_neg), ("boxed", 1, ev n .f_boxed), ("dia", 1, ev n .f_dia)] (cTab t_PREFIXES (cMl0 gPop (cVar 3))) (cArgs [cVar 1])]))
abbrev oE (e0 : Option D) (a : Fm) (e2 : Option D) (m j : Nat) : Fx.Env := [e0, some a.toD, e2, some (.ref (m + j))]
def isP : List Sg → Bool
  | .p _ :: _ => true
  | _ => false
theorem condO_ok {e0 e2 : Option D} {a : Fm} {j : Nat} {w : List D} {g : List Sg} (h : w[j]? = some (sgD g)) : condO (oE e0 a e2 ro.length j) ro w = .ok (isP g) w := by
  have s3 := see_at (ro := ro) h
  unfold condO
  cases g with
  | nil =>
    have s3' : see ro w (.ref (ro.length + j)) = .lst [] := s3
    simp only [x_and, x_or, x_not, x_andT, x_orT, x_notT, x_tru, x_test, x_bin, x_un, x_tup, x_lst, x_call, x_call0, x_args, x_args0, x_var, x_k, x_one, x_nil, x_if, List.getElem?_cons_zero, List.getElem?_cons_succ, ofO_ss, an_ok, List.length_cons, List.length_nil, Nat.zero_add, Nat.reduceAdd, if_true, Bool.false_eq_true, if_false, see_int, see_str, see_bl, see_lst, see_tup, see_non, bool_bl, truth_bl, st_ok, oan_nx, oan_rt, oan_bk, oan_ct, fin_rt, fin_nx, tn_nx, tn_rt, tn_ct, tn_bk, andV_bl, orV_bl, notV_bl, List.set_cons_succ, List.set_cons_zero, Bool.not_true, Bool.not_false, Bool.true_and, add_int, sub_int, eq_int, ne_int, lt_int, le_int, gt_int, ge_int, int_int, int_bl, len_lst, len_tup, List.map_cons, List.map_nil, List.length_map, x_one, s3']
    rfl
  | cons s g =>
    rw [sgD_cons] at s3
    have ln : gLen (.lst (List.map (fun s => D.str s.s) g.reverse ++ [.str s.s])) ro w = .ok (.int ((g.length + 1 : Nat) : Int)) w := by
      rw [len_lst]
      simp
    have ps : decide ((0 : Int) < ((g.length + 1 : Nat) : Int)) = true := decide_eq_true (by omega)
    have ix := ix_last (ro := ro) (w := w) (ds := List.map (fun s => D.str s.s) g.reverse) (d := .str s.s)
    have neg : gNeg (.int 1) ro w = .ok (.int (-1)) w := rfl
    have hp : gTabG t_PREFIXES (.str s.s) ro w = .ok (.bl (tabHas t_PREFIXES s.s)) w := rfl
    rw [x_andT]
    have t1 : cTest (cBin gGt (cCall (one gLen) (cArgs [cVar 3])) (cK (.int 0))) (oE e0 a e2 ro.length j) ro w = .ok true w := by
      unfold oE
      simp only [x_test, x_bin, x_call, x_args, x_args0, x_one, x_var, x_k, List.getElem?_cons_zero, List.getElem?_cons_succ, ofO_ss, an_ok, s3, ln, see_int, gt_int, bool_bl, ps]
    rw [t1, an_ok, if_pos rfl]
    have t2 : cTabG t_PREFIXES (cBin gIx (cVar 3) (cUn gNeg (cK (.int 1)))) (oE e0 a e2 ro.length j) ro w = .ok (.bl (tabHas t_PREFIXES s.s)) w := by
      unfold oE
      rw [x_tabG]
      simp only [x_bin, x_un, x_var, x_k, List.getElem?_cons_zero, List.getElem?_cons_succ, ofO_ss, an_ok, s3, neg, see_int, ix, see_str, hp]
    rw [x_test, t2, an_ok, bool_bl, has_pre]
    cases s <;> rfl
theorem pre_call (hn : 2 < n) {e0 e2 : Option D} {a : Fm} {j : Nat} {w : List D} {g : List Sg} {x : Pre} (h : w[j]? = some (sgD (.p x :: g))) :
    cCallE [("neg", 1, ev n .f_neg), ("boxed", 1, ev n .f_boxed), ("dia", 1, ev n .f_dia)] (cTab t_PREFIXES (cMl0 gPop (cVar 3))) (cArgs [cVar 1]) (oE e0 a e2 ro.length j) ro w = .ok (x.app a).toD (w.set j (sgD g)) := by
  obtain ⟨m, rfl⟩ : ∃ m, n = m + 2 := ⟨n - 2, by omega⟩
  have s3 := see_at (ro := ro) h
  rw [sgD_cons] at s3 h
  have pp : cMl0 gPop (cVar 3) (oE e0 a e2 ro.length j) ro w = .ok (.str x.s) (w.set j (sgD g)) := by
    rw [x_ml0 (o := .ref (ro.length + j)) (w1 := w) rfl s3]
    exact pop_lst h
  obtain ⟨z, hz, ez⟩ := pre_fn x
  have tb : cTab t_PREFIXES (cMl0 gPop (cVar 3)) (oE e0 a e2 ro.length j) ro w = .ok (.fn z) (w.set j (sgD g)) := by
    rw [x_tab, pp, an_ok, see_str, tab_str hz]
  have n1 := e_neg (n := m + 1) (ro := ro) (w := w.set j (sgD g)) (a := a)
  have n2 := e_boxed (n := m + 1) (ro := ro) (w := w.set j (sgD g)) (a := a)
  have n3 := e_dia (n := m) (ro := ro) (w := w.set j (sgD g)) (a := a)
  cases x with
  | neg =>
    subst ez
    rw [x_callE tb rfl]
    simp only [x_and, x_or, x_not, x_andT, x_orT, x_notT, x_tru, x_test, x_bin, x_un, x_tup, x_lst, x_call, x_call0, x_args, x_args0, x_var, x_k, x_one, x_nil, x_if, List.getElem?_cons_zero, List.getElem?_cons_succ, ofO_ss, an_ok, List.length_cons, List.length_nil, Nat.zero_add, Nat.reduceAdd, if_true, Bool.false_eq_true, if_false, see_int, see_str, see_bl, see_lst, see_tup, see_non, bool_bl, truth_bl, st_ok, oan_nx, oan_rt, oan_bk, oan_ct, fin_rt, fin_nx, tn_nx, tn_rt, tn_ct, tn_bk, andV_bl, orV_bl, notV_bl, List.set_cons_succ, List.set_cons_zero, Bool.not_true, Bool.not_false, Bool.true_and, add_int, sub_int, eq_int, ne_int, lt_int, le_int, gt_int, ge_int, int_int, int_bl, len_lst, len_tup, List.map_cons, List.map_nil, List.length_map, n1]
  | box =>
    subst ez
    rw [x_callE tb rfl]
    simp only [x_and, x_or, x_not, x_andT, x_orT, x_notT, x_tru, x_test, x_bin, x_un, x_tup, x_lst, x_call, x_call0, x_args, x_args0, x_var, x_k, x_one, x_nil, x_if, List.getElem?_cons_zero, List.getElem?_cons_succ, ofO_ss, an_ok, List.length_cons, List.length_nil, Nat.zero_add, Nat.reduceAdd, if_true, Bool.false_eq_true, if_false, see_int, see_str, see_bl, see_lst, see_tup, see_non, bool_bl, truth_bl, st_ok, oan_nx, oan_rt, oan_bk, oan_ct, fin_rt, fin_nx, tn_nx, tn_rt, tn_ct, tn_bk, andV_bl, orV_bl, notV_bl, List.set_cons_succ, List.set_cons_zero, Bool.not_true, Bool.not_false, Bool.true_and, add_int, sub_int, eq_int, ne_int, lt_int, le_int, gt_int, ge_int, int_int, int_bl, len_lst, len_tup, List.map_cons, List.map_nil, List.length_map, n2]
  | dia =>
    subst ez
    rw [x_callE tb rfl]
    simp only [x_and, x_or, x_not, x_andT, x_orT, x_notT, x_tru, x_test, x_bin, x_un, x_tup, x_lst, x_call, x_call0, x_args, x_args0, x_var, x_k, x_one, x_nil, x_if, List.getElem?_cons_zero, List.getElem?_cons_succ, ofO_ss, an_ok, List.length_cons, List.length_nil, Nat.zero_add, Nat.reduceAdd, if_true, Bool.false_eq_true, if_false, see_int, see_str, see_bl, see_lst, see_tup, see_non, bool_bl, truth_bl, st_ok, oan_nx, oan_rt, oan_bk, oan_ct, fin_rt, fin_nx, tn_nx, tn_rt, tn_ct, tn_bk, andV_bl, orV_bl, notV_bl, List.set_cons_succ, List.set_cons_zero, Bool.not_true, Bool.not_false, Bool.true_and, add_int, sub_int, eq_int, ne_int, lt_int, le_int, gt_int, ge_int, int_int, int_bl, len_lst, len_tup, List.map_cons, List.map_nil, List.length_map, n3]
theorem checked_n {w : List D} {a : Fm} (h : a.ht + 4 < n) : ev n .f_checked [a.toD] ro w = match chk a with
    | .ok _ => .ok a.toD w
    | _ => .exn "InvalidText" [] [] w := by
  obtain ⟨m, rfl⟩ : ∃ m, n = m + 1 := ⟨n - 1, by omega⟩
  exact e_checked (by omega)
theorem opnd_loop (hn : 70 < n) {e0 e2 : Option D} {j : Nat} : ∀ (g : List Sg) (a : Fm) (w : List D) (N : Nat), g.length < N → w[j]? = some (sgD g) → a.ht ≤ 60 →
    match opnd a g with
    | .ok c => c.1.ht ≤ 60 ∧ whileL condO (bodyO n) N (oE e0 a e2 ro.length j) ro w = .go .nx (oE e0 c.1 e2 ro.length j) (w.set j (sgD c.2))
    | .bad => ∃ env' w', whileL condO (bodyO n) N (oE e0 a e2 ro.length j) ro w = .exn "InvalidText" [] [] env' w'
    | .no => True
  | g, a, w, 0, hN, _, _ => by omega
  | [], a, w, N + 1, hN, hw, ha => by
    refine ⟨ha, ?_⟩
    rw [while_succ, condO_ok hw, st_ok, show isP [] = false from rfl, if_neg Bool.false_ne_true]
    congr 1
    exact (set_same hw).symm
  | .b x :: g, a, w, N + 1, hN, hw, ha => by
    refine ⟨ha, ?_⟩
    rw [while_succ, condO_ok hw, st_ok, show isP (.b x :: g) = false from rfl, if_neg Bool.false_ne_true]
    congr 1
    exact (set_same hw).symm
  | .p x :: g, a, w, N + 1, hN, hw, ha => by
    have hj : j < w.length := by
      rcases Nat.lt_or_ge j w.length with h | h
      · exact h
      · rw [List.getElem?_eq_none h] at hw
        cases hw
    have pc := pre_call (n := n) (ro := ro) (by omega) (e0 := e0) (e2 := e2) (a := a) hw
    have h3 : (x.app a).ht ≤ a.ht + 3 := by
      have := a.ht_pos
      cases x <;> simp only [Pre.app, Fm.ht] <;> omega
    have ck := checked_n (n := n) (ro := ro) (w := w.set j (sgD g)) (a := x.app a) (by omega)
    have b1 : bodyO n (oE e0 a e2 ro.length j) ro w = (match chk (x.app a) with
        | .ok _ => .go .nx (oE e0 (x.app a) e2 ro.length j) (w.set j (sgD g))
        | _ => .exn "InvalidText" [] [] (oE e0 a e2 ro.length j) (w.set j (sgD g))) := by
      unfold bodyO
      rw [x_set, x_call, x_args, pc, an_ok, x_args0, an_ok, an_ok]
      simp only [List.length_cons, List.length_nil, Nat.zero_add, if_true]
      rw [ck]
      cases chk (x.app a) <;> rfl
    show match (chk (x.app a)).bind fun c => opnd c g with
      | .ok c => _
      | .bad => _
      | .no => True
    rw [while_succ, condO_ok hw, st_ok, show isP (.p x :: g) = true from rfl, if_pos rfl, b1]
    by_cases c : (x.app a).ht ≤ 60
    · rw [chk_ok c, Rs.bind_ok]
      have ih := opnd_loop hn (e0 := e0) (e2 := e2) (j := j) g (x.app a) (w.set j (sgD g)) N (by simp only [List.length_cons] at hN; omega) (List.getElem?_set_self hj) c
      rw [tn_nx]
      cases q : opnd (x.app a) g with
      | ok c =>
        rw [q] at ih
        refine ⟨ih.1, ih.2.trans ?_⟩
        rw [List.set_set]
      | bad =>
        rw [q] at ih
        exact ih
      | no => trivial
    · have cb : chk (x.app a) = .bad := if_neg c
      rw [cb]
      exact ⟨_, _, rfl⟩
end
theorem bin_fn (x : Bi) : ∃ z : Str, tabV t_BINARY x.s = some (.fn z) ∧ z = (match x with
    | .iff => ("iff" : Str)
    | .imp => "implied"
    | .or => "either"
    | .and => "both") := by cases x <;> exact ⟨_, rfl, rfl⟩
section
variable {n : Nat} {ro : List D}
theorem e_bin {a b : Fm} {w : List D} : ev (n + 1) .f_iff [a.toD, b.toD] ro w = .ok (Bi.iff.app a b).toD w ∧ ev (n + 1) .f_implied [a.toD, b.toD] ro w = .ok (Bi.imp.app a b).toD w ∧ ev (n + 1) .f_either [a.toD, b.toD] ro w = .ok (Bi.or.app a b).toD w ∧ ev (n + 1) .f_both [a.toD, b.toD] ro w = .ok (Bi.and.app a b).toD w := by
  refine ⟨?_, ?_, ?_, ?_⟩
  · rw [q_iff, x_def]; rfl
  · rw [q_implied, x_def]; rfl
  · rw [q_either, x_def]; rfl
  · rw [q_both, x_def]; rfl
def condR : Fx.Env → M Bool := cAndT (cTest (cBin gGt (cCall (one gLen) (cArgs [cVar 3])) (cK (.int 0)))) (cTest (cBin gGe (cTab t_LEVELS (cBin gIx (cVar 3) (cUn gNeg (cK (.int 1))))) (cVar 1)))
def appR (n : Nat) : SF := sExpr (cMl gAppend (cVar 2) (cArgs [cCall (fun ds => if ds.length = 1 then ev n .f_checked ds else M.no) (cArgs [cCallE [("iff", 2, ev n .f_iff), ("implied", 2, ev n .f_implied), ("either", 2, ev n .f_either), ("both", 2, ev n .f_both)] (cTab t_BINARY (cMl0 gPop (cVar 3))) (cArgs [cVar 5, cVar 4])])]))
def bodyR (n : Nat) : SF := sSeq (sSet 4 (cMl0 gPop (cVar 2)))
  (sSeq (sSet 5 (cMl0 gPop (cVar 2)))
  (appR n))
abbrev rE (e0 : Option D) (k : Nat) (m i j : Nat) (e4 e5 : Option D) : Fx.Env := [e0, some (.int (k : Int)), some (.ref (m + i)), some (.ref (m + j)), e4, e5]
theorem condR_nil {e0 e4 e5 : Option D} {k i j : Nat} {w : List D} (h : w[j]? = some (sgD [])) : condR (rE e0 k ro.length i j e4 e5) ro w = .ok false w := by
  have s3 := see_at (ro := ro) h
  unfold condR
  have s3' : see ro w (.ref (ro.length + j)) = .lst [] := s3
  simp only [x_and, x_or, x_not, x_andT, x_orT, x_notT, x_tru, x_test, x_bin, x_un, x_tup, x_lst, x_call, x_call0, x_args, x_args0, x_var, x_k, x_one, x_nil, x_if, List.getElem?_cons_zero, List.getElem?_cons_succ, ofO_ss, an_ok, List.length_cons, List.length_nil, Nat.zero_add, Nat.reduceAdd, if_true, Bool.false_eq_true, if_false, see_int, see_str, see_bl, see_lst, see_tup, see_non, bool_bl, truth_bl, st_ok, oan_nx, oan_rt, oan_bk, oan_ct, fin_rt, fin_nx, tn_nx, tn_rt, tn_ct, tn_bk, andV_bl, orV_bl, notV_bl, List.set_cons_succ, List.set_cons_zero, Bool.not_true, Bool.not_false, Bool.true_and, add_int, sub_int, eq_int, ne_int, lt_int, le_int, gt_int, ge_int, int_int, int_bl, len_lst, len_tup, List.map_cons, List.map_nil, List.length_map, x_one, s3']
  rfl
theorem condR_b {e0 e4 e5 : Option D} {k i j : Nat} {w : List D} {x : Bi} {g : List Sg} (h : w[j]? = some (sgD (.b x :: g))) : condR (rE e0 k ro.length i j e4 e5) ro w = .ok (decide (k ≤ x.lev)) w := by
  have s3 := see_at (ro := ro) h
  unfold condR
  rw [sgD_cons] at s3
  have ln : gLen (.lst (List.map (fun s => D.str s.s) g.reverse ++ [.str x.s])) ro w = .ok (.int ((g.length + 1 : Nat) : Int)) w := by
    rw [len_lst]
    simp
  have ps : decide ((0 : Int) < ((g.length + 1 : Nat) : Int)) = true := decide_eq_true (by omega)
  have ix := ix_last (ro := ro) (w := w) (ds := List.map (fun s => D.str s.s) g.reverse) (d := .str x.s)
  have neg : gNeg (.int 1) ro w = .ok (.int (-1)) w := rfl
  have s3' : see ro w (.ref (ro.length + j)) = .lst (List.map (fun s => D.str s.s) g.reverse ++ [.str x.s]) := s3
  have t1 : cTest (cBin gGt (cCall (one gLen) (cArgs [cVar 3])) (cK (.int 0))) (rE e0 k ro.length i j e4 e5) ro w = .ok true w := by
    unfold rE
    simp only [x_test, x_bin, x_call, x_args, x_args0, x_one, x_var, x_k, List.getElem?_cons_zero, List.getElem?_cons_succ, ofO_ss, an_ok, s3', ln, see_int, gt_int, bool_bl, ps]
  have t2 : cTab t_LEVELS (cBin gIx (cVar 3) (cUn gNeg (cK (.int 1)))) (rE e0 k ro.length i j e4 e5) ro w = .ok (.int (x.lev : Nat)) w := by
    unfold rE
    rw [x_tab]
    simp only [x_bin, x_un, x_var, x_k, List.getElem?_cons_zero, List.getElem?_cons_succ, ofO_ss, an_ok, s3', neg, see_int, ix, see_str, tab_str (lev_at x)]
  rw [x_andT, t1, an_ok, if_pos rfl, x_test, x_bin, t2, an_ok]
  unfold rE
  simp only [x_var, List.getElem?_cons_zero, List.getElem?_cons_succ, ofO_ss, an_ok, see_int, ge_int, bool_bl]
  congr 1
  exact decide_eq_decide.mpr (by omega)
theorem len_at {w : List D} {j : Nat} {d : D} (hw : w[j]? = some d) : j < w.length := by
  rcases Nat.lt_or_ge j w.length with h | h
  · exact h
  · rw [List.getElem?_eq_none h] at hw
    cases hw
theorem bodyR_ok (hn : 70 < n) {e0 e4 e5 : Option D} {k i j : Nat} (hij : i ≠ j) {w : List D} {x : Bi} {a b : Fm} {o : List Fm} {g : List Sg} (hi : w[i]? = some (opD (b :: a :: o))) (hj : w[j]? = some (sgD (.b x :: g))) (ho : o.length < 100000) (ha : a.ht ≤ 60) (hb : b.ht ≤ 60) :
    bodyR n (rE e0 k ro.length i j e4 e5) ro w = match chk (x.app a b) with
      | .ok c => .go .nx (rE e0 k ro.length i j (some b.toD) (some a.toD)) ((w.set i (opD (c :: o))).set j (sgD g))
      | _ => .exn "InvalidText" [] [] (rE e0 k ro.length i j (some b.toD) (some a.toD)) ((w.set i (opD o)).set j (sgD g)) := by
  have li := len_at hi
  have lj := len_at hj
  obtain ⟨m, rfl⟩ : ∃ m, n = m + 1 := ⟨n - 1, by omega⟩
  have s1 := see_at (ro := ro) hi
  have s2 : see ro (w.set i (opD (a :: o))) (.ref (ro.length + i)) = .lst (o.reverse.map Fm.toD ++ [a.toD]) := (see_at (ro := ro) (w := w.set i (opD (a :: o))) (j := i) (List.getElem?_set_self li)).trans opD_cons
  rw [opD_cons] at s1 hi
  have p1 : cMl0 gPop (cVar 2) (rE e0 k ro.length i j e4 e5) ro w = .ok b.toD (w.set i (opD (a :: o))) := by
    rw [x_ml0 (o := .ref (ro.length + i)) (w1 := w) rfl s1]
    exact pop_lst hi
  have h2 : (w.set i (opD (a :: o)))[i]? = some (.lst (o.reverse.map Fm.toD ++ [a.toD])) := by rw [List.getElem?_set_self li, opD_cons]
  have p2 : cMl0 gPop (cVar 2) (rE e0 k ro.length i j (some b.toD) e5) ro (w.set i (opD (a :: o))) = .ok a.toD (w.set i (opD o)) := by
    rw [x_ml0 (o := .ref (ro.length + i)) (w1 := w.set i (opD (a :: o))) rfl s2]
    refine (pop_lst h2).trans ?_
    rw [List.set_set]
  have h3 : (w.set i (opD o))[j]? = some (.lst ((g.reverse.map fun s => .str s.s) ++ [.str x.s])) := by
    rw [List.getElem?_set_ne hij, hj, sgD_cons]
    rfl
  have s3 := see_at (ro := ro) h3
  have p3 : cMl0 gPop (cVar 3) (rE e0 k ro.length i j (some b.toD) (some a.toD)) ro (w.set i (opD o)) = .ok (.str x.s) ((w.set i (opD o)).set j (sgD g)) := by
    rw [x_ml0 (o := .ref (ro.length + j)) (w1 := w.set i (opD o)) rfl s3]
    exact pop_lst h3
  obtain ⟨z, hz, ez⟩ := bin_fn x
  have tb : cTab t_BINARY (cMl0 gPop (cVar 3)) (rE e0 k ro.length i j (some b.toD) (some a.toD)) ro (w.set i (opD o)) = .ok (.fn z) ((w.set i (opD o)).set j (sgD g)) := by
    rw [x_tab, p3, an_ok, see_str, tab_str hz]
  obtain ⟨n1, n2, n3, n4⟩ := e_bin (n := m) (ro := ro) (w := (w.set i (opD o)).set j (sgD g)) (a := a) (b := b)
  have call : cCallE [("iff", 2, ev (m + 1) .f_iff), ("implied", 2, ev (m + 1) .f_implied), ("either", 2, ev (m + 1) .f_either), ("both", 2, ev (m + 1) .f_both)] (cTab t_BINARY (cMl0 gPop (cVar 3))) (cArgs [cVar 5, cVar 4]) (rE e0 k ro.length i j (some b.toD) (some a.toD)) ro (w.set i (opD o)) = .ok (x.app a b).toD ((w.set i (opD o)).set j (sgD g)) := by
    cases x with
    | iff => subst ez; rw [x_callE tb rfl]; simp only [x_and, x_or, x_not, x_andT, x_orT, x_notT, x_tru, x_test, x_bin, x_un, x_tup, x_lst, x_call, x_call0, x_args, x_args0, x_var, x_k, x_one, x_nil, x_if, List.getElem?_cons_zero, List.getElem?_cons_succ, ofO_ss, an_ok, List.length_cons, List.length_nil, Nat.zero_add, Nat.reduceAdd, if_true, Bool.false_eq_true, if_false, see_int, see_str, see_bl, see_lst, see_tup, see_non, bool_bl, truth_bl, st_ok, oan_nx, oan_rt, oan_bk, oan_ct, fin_rt, fin_nx, tn_nx, tn_rt, tn_ct, tn_bk, andV_bl, orV_bl, notV_bl, List.set_cons_succ, List.set_cons_zero, Bool.not_true, Bool.not_false, Bool.true_and, add_int, sub_int, eq_int, ne_int, lt_int, le_int, gt_int, ge_int, int_int, int_bl, len_lst, len_tup, List.map_cons, List.map_nil, List.length_map, n1]
    | imp => subst ez; rw [x_callE tb rfl]; simp only [x_and, x_or, x_not, x_andT, x_orT, x_notT, x_tru, x_test, x_bin, x_un, x_tup, x_lst, x_call, x_call0, x_args, x_args0, x_var, x_k, x_one, x_nil, x_if, List.getElem?_cons_zero, List.getElem?_cons_succ, ofO_ss, an_ok, List.length_cons, List.length_nil, Nat.zero_add, Nat.reduceAdd, if_true, Bool.false_eq_true, if_false, see_int, see_str, see_bl, see_lst, see_tup, see_non, bool_bl, truth_bl, st_ok, oan_nx, oan_rt, oan_bk, oan_ct, fin_rt, fin_nx, tn_nx, tn_rt, tn_ct, tn_bk, andV_bl, orV_bl, notV_bl, List.set_cons_succ, List.set_cons_zero, Bool.not_true, Bool.not_false, Bool.true_and, add_int, sub_int, eq_int, ne_int, lt_int, le_int, gt_int, ge_int, int_int, int_bl, len_lst, len_tup, List.map_cons, List.map_nil, List.length_map, n2]
    | or => subst ez; rw [x_callE tb rfl]; simp only [x_and, x_or, x_not, x_andT, x_orT, x_notT, x_tru, x_test, x_bin, x_un, x_tup, x_lst, x_call, x_call0, x_args, x_args0, x_var, x_k, x_one, x_nil, x_if, List.getElem?_cons_zero, List.getElem?_cons_succ, ofO_ss, an_ok, List.length_cons, List.length_nil, Nat.zero_add, Nat.reduceAdd, if_true, Bool.false_eq_true, if_false, see_int, see_str, see_bl, see_lst, see_tup, see_non, bool_bl, truth_bl, st_ok, oan_nx, oan_rt, oan_bk, oan_ct, fin_rt, fin_nx, tn_nx, tn_rt, tn_ct, tn_bk, andV_bl, orV_bl, notV_bl, List.set_cons_succ, List.set_cons_zero, Bool.not_true, Bool.not_false, Bool.true_and, add_int, sub_int, eq_int, ne_int, lt_int, le_int, gt_int, ge_int, int_int, int_bl, len_lst, len_tup, List.map_cons, List.map_nil, List.length_map, n3]
    | and => subst ez; rw [x_callE tb rfl]; simp only [x_and, x_or, x_not, x_andT, x_orT, x_notT, x_tru, x_test, x_bin, x_un, x_tup, x_lst, x_call, x_call0, x_args, x_args0, x_var, x_k, x_one, x_nil, x_if, List.getElem?_cons_zero, List.getElem?_cons_succ, ofO_ss, an_ok, List.length_cons, List.length_nil, Nat.zero_add, Nat.reduceAdd, if_true, Bool.false_eq_true, if_false, see_int, see_str, see_bl, see_lst, see_tup, see_non, bool_bl, truth_bl, st_ok, oan_nx, oan_rt, oan_bk, oan_ct, fin_rt, fin_nx, tn_nx, tn_rt, tn_ct, tn_bk, andV_bl, orV_bl, notV_bl, List.set_cons_succ, List.set_cons_zero, Bool.not_true, Bool.not_false, Bool.true_and, add_int, sub_int, eq_int, ne_int, lt_int, le_int, gt_int, ge_int, int_int, int_bl, len_lst, len_tup, List.map_cons, List.map_nil, List.length_map, n4]
  have hx : (x.app a b).ht ≤ 62 := by cases x <;> simp only [Bi.app, Fm.ht] <;> omega
  have ck := checked_n (n := m + 1) (ro := ro) (w := (w.set i (opD o)).set j (sgD g)) (a := x.app a b) (by omega)
  unfold bodyR
  rw [x_seq, x_set, p1, st_ok, oan_nx]
  simp only [rE, List.set_cons_succ, List.set_cons_zero]
  simp only [rE] at p2
  rw [x_seq, x_set, p2, st_ok, oan_nx]
  simp only [List.set_cons_succ, List.set_cons_zero]
  have so : see ro (w.set i (opD o)) (.ref (ro.length + i)) = opD o := see_at (List.getElem?_set_self li)
  simp only [rE] at call
  unfold appR
  rw [x_expr, x_ml]
  have c2 : cVar 2 [e0, some (.int (k : Int)), some (.ref (ro.length + i)), some (.ref (ro.length + j)), some b.toD, some a.toD] ro (w.set i (opD o)) = .ok (.ref (ro.length + i)) (w.set i (opD o)) := rfl
  rw [c2, an_ok, so, mlV_lst, x_args, x_call, x_args, call, an_ok, x_args0, an_ok, an_ok]
  simp only [List.length_cons, List.length_nil, Nat.zero_add, if_true]
  rw [ck]
  cases q : chk (x.app a b) with
  | ok c =>
    have e : c = x.app a b := by
      unfold chk at q
      split at q
      · cases q; rfl
      · cases q
    subst e
    simp only [an_ok]
    have hs : sizeLine = 16777216 := rfl
    have h4 : ((w.set i (opD o)).set j (sgD g))[i]? = some (.lst (o.reverse.map Fm.toD)) := by
      rw [List.getElem?_set_ne (Ne.symm hij), List.getElem?_set_self li]
    have ap := append_at (ro := ro) (d := (x.app a b).toD) h4 (by rw [List.length_map, List.length_reverse]; omega)
    rw [x_args0, an_ok, an_ok, ap]
    simp only [st_ok]
    rw [← opD_cons, List.set_comm _ _ (Ne.symm hij), List.set_set]
  | bad => rfl
  | no => rfl
end
theorem set_four {w : List D} {i j : Nat} {A B D' E : D} (h : i ≠ j) : (((w.set i A).set j B).set i D').set j E = (w.set i D').set j E := by
  rw [List.set_comm _ _ (Ne.symm h), List.set_set, List.set_set]
section
variable {n : Nat} {ro : List D}
theorem red_loop (hn : 70 < n) {e0 : Option D} {k i j : Nat} (hij : i ≠ j) : ∀ (g : List Sg) (o : List Fm) (w : List D) (N : Nat) (e4 e5 : Option D), g.length < N → w[i]? = some (opD o) → w[j]? = some (sgD g) → o.length < 100000 → (∀ a ∈ o, a.ht ≤ 60) →
    match red k o g with
    | .ok c => (∀ a ∈ c.1, a.ht ≤ 60) ∧ c.1.length ≤ o.length ∧ c.2.length ≤ g.length ∧ ∃ e4' e5', whileL condR (bodyR n) N (rE e0 k ro.length i j e4 e5) ro w = .go .nx (rE e0 k ro.length i j e4' e5') ((w.set i (opD c.1)).set j (sgD c.2))
    | .bad => ∃ env' w', whileL condR (bodyR n) N (rE e0 k ro.length i j e4 e5) ro w = .exn "InvalidText" [] [] env' w'
    | .no => True
  | g, o, w, 0, _, _, hN, _, _, _, _ => by omega
  | [], o, w, N + 1, e4, e5, hN, hi, hj, ho, hh => by
    have e : red k o [] = .ok (o, []) := by cases o <;> rfl
    rw [e]
    refine ⟨hh, Nat.le_refl _, Nat.le_refl _, e4, e5, ?_⟩
    rw [while_succ, condR_nil hj, st_ok, if_neg Bool.false_ne_true, set_same hi, set_same hj]
  | .p x :: g, o, w, N + 1, e4, e5, hN, hi, hj, ho, hh => by
    have e : red k o (.p x :: g) = .no := by cases o <;> rfl
    rw [e]
    trivial
  | .b x :: g, o, w, N + 1, e4, e5, hN, hi, hj, ho, hh => by
    by_cases c : k ≤ x.lev
    · match o, hi, ho, hh with
      | [], _, _, _ =>
        have e : red k [] (.b x :: g) = .no := by simp [red, c]
        rw [e]
        trivial
      | [a], _, _, _ =>
        have e : red k [a] (.b x :: g) = .no := by simp [red, c]
        rw [e]
        trivial
      | b :: a :: o, hi, ho, hh =>
        have e : red k (b :: a :: o) (.b x :: g) = (chk (x.app a b)).bind fun c => red k (c :: o) g := by rw [red, if_pos c]
        have ho' : o.length < 100000 := by simp only [List.length_cons] at ho; omega
        have bd := bodyR_ok (ro := ro) hn (e0 := e0) (e4 := e4) (e5 := e5) (k := k) hij hi hj ho' (hh a (by simp)) (hh b (by simp))
        rw [e, while_succ, condR_b hj, st_ok, if_pos (decide_eq_true c), bd]
        by_cases c6 : (x.app a b).ht ≤ 60
        · rw [chk_ok c6, Rs.bind_ok]
          have li := len_at hi
          have lj := len_at hj
          have ih := red_loop hn (e0 := e0) (k := k) hij g (x.app a b :: o) ((w.set i (opD (x.app a b :: o))).set j (sgD g)) N (some b.toD) (some a.toD) (by simp only [List.length_cons] at hN; omega) (by rw [List.getElem?_set_ne (Ne.symm hij), List.getElem?_set_self li]) (by rw [List.getElem?_set_self (by rw [List.length_set]; exact lj)]) (by simp only [List.length_cons]; simp only [List.length_cons] at ho; omega) (fun y hy => by
            rcases List.mem_cons.mp hy with rfl | hy
            · exact c6
            · exact hh y (by simp [hy]))
          dsimp only
          rw [tn_nx]
          cases q : red k (x.app a b :: o) g with
          | ok c =>
            rw [q] at ih
            obtain ⟨i1, i2, i3, f4, f5, i4⟩ := ih
            refine ⟨i1, by simp only [List.length_cons] at i2 ⊢; omega, by simp only [List.length_cons]; omega, f4, f5, i4.trans ?_⟩
            rw [set_four hij]
          | bad =>
            rw [q] at ih
            exact ih
          | no => trivial
        · have cb : chk (x.app a b) = .bad := if_neg c6
          rw [cb]
          exact ⟨_, _, rfl⟩
    · have e : red k o (.b x :: g) = .ok (o, .b x :: g) := by
        match o with
        | [] => simp [red, c]
        | [a] => simp [red, c]
        | b :: a :: o => simp [red, c]
      rw [e]
      refine ⟨hh, Nat.le_refl _, Nat.le_refl _, e4, e5, ?_⟩
      rw [while_succ, condR_b hj, st_ok, decide_eq_false c, if_neg Bool.false_ne_true, set_same hi, set_same hj]
/-! ### the reader in the heap -/
def frD (m : Nat) (p : Nat × Nat) : D := .tup [.ref (m + p.1), .ref (m + p.2)]
def Rep2 (w : List D) : List (Nat × Nat) → List Fr → Prop
  | [], [] => True
  | p :: as, f :: fs => w[p.1]? = some (opD f.1) ∧ w[p.2]? = some (sgD f.2) ∧ Rep2 w as fs
  | _, _ => False
abbrev flat (as : List (Nat × Nat)) : List Nat := as.flatMap fun p => [p.1, p.2]
theorem rep2_set {w : List D} {i : Nat} {d : D} : ∀ {as : List (Nat × Nat)} {fs : List Fr}, i ∉ flat as → Rep2 w as fs → Rep2 (w.set i d) as fs
  | [], [], _, _ => trivial
  | p :: as, f :: fs, hi, ⟨h1, h2, h3⟩ => by
    simp only [flat, List.flatMap_cons, List.mem_append, List.mem_cons, List.not_mem_nil, or_false, not_or] at hi
    refine ⟨?_, ?_, rep2_set (by simpa [flat] using hi.2) h3⟩
    · rw [List.getElem?_set_ne hi.1.1]; exact h1
    · rw [List.getElem?_set_ne hi.1.2]; exact h2
  | [], _ :: _, _, h => h.elim
  | _ :: _, [], _, h => h.elim
theorem rep2_app {w z : List D} : ∀ {as : List (Nat × Nat)} {fs : List Fr}, Rep2 w as fs → Rep2 (w ++ z) as fs
  | [], [], _ => trivial
  | p :: as, f :: fs, ⟨h1, h2, h3⟩ => ⟨by rw [List.getElem?_append_left (len_at h1)]; exact h1, by rw [List.getElem?_append_left (len_at h2)]; exact h2, rep2_app h3⟩
  | [], _ :: _, h => h.elim
  | _ :: _, [], h => h.elim
theorem rep2_len {w : List D} : ∀ {as : List (Nat × Nat)} {fs : List Fr}, Rep2 w as fs → as.length = fs.length
  | [], [], _ => rfl
  | p :: as, f :: fs, ⟨_, _, h3⟩ => by rw [List.length_cons, List.length_cons, rep2_len h3]
  | [], _ :: _, h => h.elim
  | _ :: _, [], h => h.elim
/-- the reader's object at 0, the list of its frames at 3 -/
structure RS (m : Nat) (w : List D) (as : List (Nat × Nat)) (fs : List Fr) (c : Nat) : Prop where
  rd : w[0]? = some (.ins "Reader" ["frames"] [.ref (m + 3)])
  fr : w[3]? = some (.lst (as.reverse.map (frD m)))
  ok : Rep2 w as fs
  nd : (flat as).Nodup
  off : 0 ∉ flat as ∧ 3 ∉ flat as
  lt : ∀ i ∈ flat as, i < w.length
  sz : ∀ f ∈ fs, f.1.length ≤ c ∧ f.2.length ≤ c
  fl : fs.length ≤ 100
  ht : ∀ f ∈ fs, ∀ a ∈ f.1, a.ht ≤ 60
end
theorem opnd_len : ∀ {g : List Sg} {a : Fm} {r : Fm × List Sg}, opnd a g = .ok r → r.2.length ≤ g.length
  | [], a, r, h => by cases h; exact Nat.le_refl _
  | .b x :: g, a, r, h => by cases h; exact Nat.le_refl _
  | .p x :: g, a, r, h => by
    have h : (chk (x.app a)).bind (fun c => opnd c g) = .ok r := h
    cases q : chk (x.app a) with
    | ok c =>
      rw [q] at h
      have := opnd_len (g := g) (a := c) h
      simp only [List.length_cons]
      omega
    | bad => rw [q] at h; cases h
    | no => rw [q] at h; cases h
section
variable {n m : Nat} {ro w : List D} {p : Nat × Nat} {as : List (Nat × Nat)} {o : List Fm} {g : List Sg} {fs : List Fr} {c c' : Nat}
theorem flat_cons : flat (p :: as) = p.1 :: p.2 :: flat as := rfl
theorem RS.split (h : RS m w (p :: as) ((o, g) :: fs) c) : p.1 ≠ p.2 ∧ p.1 ∉ flat as ∧ p.2 ∉ flat as ∧ p.1 ≠ 0 ∧ p.1 ≠ 3 ∧ p.2 ≠ 0 ∧ p.2 ≠ 3 ∧ p.1 < w.length ∧ p.2 < w.length := by
  have nd := h.nd
  rw [flat_cons, List.nodup_cons, List.nodup_cons] at nd
  simp only [List.mem_cons, not_or] at nd
  have o0 := h.off.1
  have o3 := h.off.2
  rw [flat_cons] at o0 o3
  simp only [List.mem_cons, not_or] at o0 o3
  exact ⟨nd.1.1, nd.1.2, nd.2.1, Ne.symm o0.1, Ne.symm o3.1, Ne.symm o0.2.1, Ne.symm o3.2.1, h.lt _ (by simp [flat_cons]), h.lt _ (by simp [flat_cons])⟩
theorem RS.ops (h : RS m w (p :: as) ((o, g) :: fs) c) {o' : List Fm} (hc : c ≤ c') (hl : o'.length ≤ c') (hh : ∀ a ∈ o', a.ht ≤ 60) : RS m (w.set p.1 (opD o')) (p :: as) ((o', g) :: fs) c' := by
  obtain ⟨n1, n2, n3, n4, n5, n6, n7, l1, l2⟩ := h.split
  refine ⟨?_, ?_, ⟨List.getElem?_set_self l1, ?_, rep2_set n2 h.ok.2.2⟩, h.nd, h.off, fun i hi => by rw [List.length_set]; exact h.lt i hi, fun f hf => ?_, h.fl, fun f hf => ?_⟩
  · rw [List.getElem?_set_ne n4]; exact h.rd
  · rw [List.getElem?_set_ne n5]; exact h.fr
  · rw [List.getElem?_set_ne n1]; exact h.ok.2.1
  · have q := h.sz
    rcases List.mem_cons.mp hf with rfl | hf
    · exact ⟨hl, Nat.le_trans (q (o, g) (by simp)).2 hc⟩
    · exact ⟨Nat.le_trans (q f (by simp [hf])).1 hc, Nat.le_trans (q f (by simp [hf])).2 hc⟩
  · rcases List.mem_cons.mp hf with rfl | hf
    · exact hh
    · exact h.ht f (by simp [hf])
theorem RS.sgs (h : RS m w (p :: as) ((o, g) :: fs) c) {g' : List Sg} (hc : c ≤ c') (hl : g'.length ≤ c') : RS m (w.set p.2 (sgD g')) (p :: as) ((o, g') :: fs) c' := by
  obtain ⟨n1, n2, n3, n4, n5, n6, n7, l1, l2⟩ := h.split
  refine ⟨?_, ?_, ⟨?_, List.getElem?_set_self l2, rep2_set n3 h.ok.2.2⟩, h.nd, h.off, fun i hi => by rw [List.length_set]; exact h.lt i hi, fun f hf => ?_, h.fl, fun f hf => ?_⟩
  · rw [List.getElem?_set_ne n6]; exact h.rd
  · rw [List.getElem?_set_ne n7]; exact h.fr
  · rw [List.getElem?_set_ne (Ne.symm n1)]; exact h.ok.1
  · have q := h.sz
    rcases List.mem_cons.mp hf with rfl | hf
    · exact ⟨Nat.le_trans (q (o, g) (by simp)).1 hc, hl⟩
    · exact ⟨Nat.le_trans (q f (by simp [hf])).1 hc, Nat.le_trans (q f (by simp [hf])).2 hc⟩
  · rcases List.mem_cons.mp hf with rfl | hf
    · exact h.ht (o, g) (by simp)
    · exact h.ht f (by simp [hf])
theorem RS.see0 (h : RS ro.length w as fs c) : see ro w (.ref (ro.length + 0)) = .ins "Reader" ["frames"] [.ref (ro.length + 3)] := see_at h.rd
theorem RS.fld {env : Fx.Env} {i : Nat} (h : RS ro.length w as fs c) (he : env[i]? = some (some (.ref (ro.length + 0)))) : cFld "Reader" "frames" (cVar i) env ro w = .ok (.ref (ro.length + 3)) w := by
  rw [x_fld, x_var, he]
  simp only [ofO_ss, an_ok]
  rw [h.see0]
  exact fld_ins rfl
theorem RS.top {env : Fx.Env} {i : Nat} (h : RS ro.length w (p :: as) fs c) (he : env[i]? = some (some (.ref (ro.length + 0)))) : cBin gIx (cFld "Reader" "frames" (cVar i)) (cUn gNeg (cK (.int 1))) env ro w = .ok (frD ro.length p) w := by
  have s3 := see_at (ro := ro) h.fr
  have neg : gNeg (.int 1) ro w = .ok (.int (-1)) w := rfl
  rw [List.reverse_cons, List.map_append] at s3
  rw [x_bin, h.fld he, an_ok]
  simp only [x_un, x_k, an_ok, see_int, neg]
  rw [s3]
  exact ix_last
theorem bodyO_eq : sWhile 1000000 (cAndT (cTest (cBin gGt (cCall (one gLen) (cArgs [cVar 3])) (cK (.int 0)))) (cTest (cTabG t_PREFIXES (cBin gIx (cVar 3) (cUn gNeg (cK (.int 1))))))) (sSet 1 (cCall (fun ds => if ds.length = 1 then ev n .f_checked ds else M.no) (cArgs [cCallE [("neg", 1, ev n .f_neg), ("boxed", 1, ev n .f_boxed), ("dia", 1, ev n .f_dia)] (cTab t_PREFIXES (cMl0 gPop (cVar 3))) (cArgs [cVar 1])]))) = whileL condO (bodyO n) 1000000 := rfl
theorem e_operand (hn : 70 < n) {a : Fm} (h : RS ro.length w (p :: as) ((o, g) :: fs) c) (ha : a.ht ≤ 60) (hc : c < 50000) : match opnd a g with
    | .ok q => ∃ w', ev (n + 1) .f_Reader_operand [.ref (ro.length + 0), a.toD] ro w = .ok .non w' ∧ RS ro.length w' (p :: as) ((q.1 :: o, q.2) :: fs) (c + 1)
    | .bad => ∃ w', ev (n + 1) .f_Reader_operand [.ref (ro.length + 0), a.toD] ro w = .exn "InvalidText" [] [] w'
    | .no => True := by
  obtain ⟨n1, n2, n3, n4, n5, n6, n7, l1, l2⟩ := h.split
  have sz := h.sz (o, g) (by simp)
  have lp := opnd_loop (n := n) (ro := ro) hn (e0 := some (.ref (ro.length + 0))) (e2 := some (.ref (ro.length + p.1))) (j := p.2) g a w 1000000 (by have := sz.2; simp only at this; omega) h.ok.2.1 ha
  have top := h.top (env := [some (.ref (ro.length + 0)), some a.toD, none, none]) (i := 0) rfl
  have as1 : sAsg (.tp [2, 3]) (cBin gIx (cFld "Reader" "frames" (cVar 0)) (cUn gNeg (cK (.int 1)))) [some (.ref (ro.length + 0)), some a.toD, none, none] ro w = .go .nx (oE (some (.ref (ro.length + 0))) a (some (.ref (ro.length + p.1))) ro.length p.2) w := x_asg top rfl
  have st : ev (n + 1) .f_Reader_operand [.ref (ro.length + 0), a.toD] ro w = ((whileL condO (bodyO n) 1000000 (oE (some (.ref (ro.length + 0))) a (some (.ref (ro.length + p.1))) ro.length p.2) ro w).an fun env' w' => sExpr (cMl gAppend (cVar 2) (cArgs [cVar 1])) env' ro w').fin := by
    rw [q_Reader_operand, x_def]
    simp only [List.length_cons, List.length_nil, Nat.zero_add, Nat.reduceAdd, if_true, List.map_cons, List.map_nil, Nat.reduceSub, List.replicate, List.cons_append, List.nil_append, List.append_nil]
    unfold b_Reader_operand
    rw [x_seq, as1, oan_nx, x_seq, bodyO_eq]
  rw [st]
  cases q : opnd a g with
  | ok r =>
    rw [q] at lp
    obtain ⟨hr, lp⟩ := lp
    have gl := opnd_len q
    have h2 := h.sgs (g' := r.2) (c' := c + 1) (by omega) (by have := sz.2; simp only at this; omega)
    have h3 : (w.set p.2 (sgD r.2))[p.1]? = some (.lst (o.reverse.map Fm.toD)) := by
      rw [List.getElem?_set_ne (Ne.symm n1)]
      exact h.ok.1
    have s1 := see_at (ro := ro) h3
    have hs : sizeLine = 16777216 := rfl
    have ap := append_at (ro := ro) (d := r.1.toD) h3 (by rw [List.length_map, List.length_reverse]; have := sz.1; simp only at this; omega)
    have h4 := h2.ops (o' := r.1 :: o) (c' := c + 1) (Nat.le_refl _) (by have := sz.1; simp only [List.length_cons] at this ⊢; omega) (fun x hx => by
      rcases List.mem_cons.mp hx with rfl | hx
      · exact hr
      · exact h.ht (o, g) (by simp) x hx)
    refine ⟨_, ?_, h4⟩
    rw [lp, oan_nx, x_expr, x_ml]
    have c2 : cVar 2 (oE (some (.ref (ro.length + 0))) r.1 (some (.ref (ro.length + p.1))) ro.length p.2) ro (w.set p.2 (sgD r.2)) = .ok (.ref (ro.length + p.1)) (w.set p.2 (sgD r.2)) := rfl
    have c1 : cVar 1 (oE (some (.ref (ro.length + 0))) r.1 (some (.ref (ro.length + p.1))) ro.length p.2) ro (w.set p.2 (sgD r.2)) = .ok r.1.toD (w.set p.2 (sgD r.2)) := rfl
    rw [c2, an_ok, s1, mlV_lst, x_args, c1, an_ok, x_args0, an_ok, an_ok, ap]
    rw [opD_cons]
    rfl
  | bad =>
    rw [q] at lp
    obtain ⟨e', w', lp⟩ := lp
    exact ⟨w', by rw [lp]; rfl⟩
  | no => trivial
end
section
variable {n m : Nat} {ro w : List D} {p : Nat × Nat} {as : List (Nat × Nat)} {o : List Fm} {g : List Sg} {fs : List Fr} {c c' : Nat}
theorem bodyR_eq : sWhile 1000000 (cAndT (cTest (cBin gGt (cCall (one gLen) (cArgs [cVar 3])) (cK (.int 0)))) (cTest (cBin gGe (cTab t_LEVELS (cBin gIx (cVar 3) (cUn gNeg (cK (.int 1))))) (cVar 1)))) (sSeq (sSet 4 (cMl0 gPop (cVar 2)))
  (sSeq (sSet 5 (cMl0 gPop (cVar 2)))
  (sExpr (cMl gAppend (cVar 2) (cArgs [cCall (fun ds => if ds.length = 1 then ev n .f_checked ds else M.no) (cArgs [cCallE [("iff", 2, ev n .f_iff), ("implied", 2, ev n .f_implied), ("either", 2, ev n .f_either), ("both", 2, ev n .f_both)] (cTab t_BINARY (cMl0 gPop (cVar 3))) (cArgs [cVar 5, cVar 4])])]))))) = whileL condR (bodyR n) 1000000 := rfl
theorem e_reduce (hn : 70 < n) {k : Nat} (h : RS ro.length w (p :: as) ((o, g) :: fs) c) (hc : c < 50000) : match red k o g with
    | .ok q => ∃ w', ev (n + 1) .f_Reader_reduce [.ref (ro.length + 0), .int (k : Int)] ro w = .ok .non w' ∧ RS ro.length w' (p :: as) ((q.1, q.2) :: fs) c
    | .bad => ∃ w', ev (n + 1) .f_Reader_reduce [.ref (ro.length + 0), .int (k : Int)] ro w = .exn "InvalidText" [] [] w'
    | .no => True := by
  obtain ⟨n1, n2, n3, n4, n5, n6, n7, l1, l2⟩ := h.split
  have sz := h.sz (o, g) (by simp)
  have lp := red_loop (n := n) (ro := ro) hn (e0 := some (.ref (ro.length + 0))) (k := k) (i := p.1) (j := p.2) n1 g o w 1000000 none none (by have := sz.2; simp only at this; omega) h.ok.1 h.ok.2.1 (by have := sz.1; simp only at this; omega) (h.ht (o, g) (by simp))
  have top := h.top (env := [some (.ref (ro.length + 0)), some (.int (k : Int)), none, none, none, none]) (i := 0) rfl
  have as1 : sAsg (.tp [2, 3]) (cBin gIx (cFld "Reader" "frames" (cVar 0)) (cUn gNeg (cK (.int 1)))) [some (.ref (ro.length + 0)), some (.int (k : Int)), none, none, none, none] ro w = .go .nx (rE (some (.ref (ro.length + 0))) k ro.length p.1 p.2 none none) w := x_asg top rfl
  have st : ev (n + 1) .f_Reader_reduce [.ref (ro.length + 0), .int (k : Int)] ro w = (whileL condR (bodyR n) 1000000 (rE (some (.ref (ro.length + 0))) k ro.length p.1 p.2 none none) ro w).fin := by
    rw [q_Reader_reduce, x_def]
    simp only [List.length_cons, List.length_nil, Nat.zero_add, Nat.reduceAdd, if_true, List.map_cons, List.map_nil, Nat.reduceSub, List.replicate, List.cons_append, List.nil_append, List.append_nil]
    unfold b_Reader_reduce
    rw [x_seq, as1, oan_nx, bodyR_eq]
  rw [st]
  cases q : red k o g with
  | ok r =>
    rw [q] at lp
    obtain ⟨hr, r1, r2, f4, f5, lp⟩ := lp
    have h2 := h.ops (o' := r.1) (c' := c) (Nat.le_refl _) (by have := sz.1; simp only at this; omega) hr
    have h3 := h2.sgs (g' := r.2) (c' := c) (Nat.le_refl _) (by have := sz.2; simp only at this; omega)
    exact ⟨_, by rw [lp]; rfl, h3⟩
  | bad =>
    rw [q] at lp
    obtain ⟨e', w', lp⟩ := lp
    exact ⟨w', by rw [lp]; rfl⟩
  | no => trivial
theorem in_signs {w : List D} : gIn (.str "<->") (sgD g) ro w = .ok (.bl (decide (Sg.b .iff ∈ g))) w := by
  have e : inD (.str "<->") (sgD g) = some (decide (Sg.b .iff ∈ g)) := by
    have s1 : (D.str "<->").sc = true := rfl
    have s2 : (g.reverse.map fun s => D.str s.s).all D.sc = true := by
      rw [List.all_eq_true]
      intro d hd
      obtain ⟨s, _, rfl⟩ := List.mem_map.mp hd
      cases s with
      | p x => cases x <;> rfl
      | b x => cases x <;> rfl
    unfold inD
    show (if (D.str "<->").sc && (g.reverse.map fun s => D.str s.s).all D.sc then some ((g.reverse.map fun s => D.str s.s).any fun d => d.eqs (.str "<->")) else _) = _
    rw [s1, s2, if_pos (show (true && true) = true from rfl)]
    congr 1
    rw [Bool.eq_iff_iff, List.any_eq_true, decide_eq_true_eq]
    have key : ∀ s : Sg, (D.str s.s).eqs (.str "<->") = true ↔ s = .b .iff := fun s => by
      cases s with
      | p x => cases x <;> decide
      | b x => cases x <;> decide
    constructor
    · rintro ⟨d, hd, he⟩
      obtain ⟨s, hs, rfl⟩ := List.mem_map.mp hd
      rw [(key s).mp he] at hs
      exact List.mem_reverse.mp hs
    · intro hm
      exact ⟨_, List.mem_map.mpr ⟨.b .iff, List.mem_reverse.mpr hm, rfl⟩, (key _).mpr rfl⟩
  unfold gIn
  rw [e]
theorem bi_ok (x : Bi) : PyData.strOk x.s = true := by cases x <;> exact ok_lit
theorem bi_iff (x : Bi) : decide (x.s = ("<->" : Str)) = decide (x = .iff) := by cases x <;> decide
theorem bi_imp (x : Bi) : decide (x.s = ("->" : Str)) = decide (x = .imp) := by cases x <;> decide
theorem e_sign (hn : 71 < n) {x : Bi} (h : RS ro.length w (p :: as) ((o, g) :: fs) c) (hc : c < 50000) : match (if x = .iff ∧ Sg.b .iff ∈ g then (Rs.bad : Rs (List Fm × List Sg)) else red x.cut o g) with
    | .ok q => ∃ w', ev (n + 1) .f_Reader_sign [.ref (ro.length + 0), .str x.s] ro w = .ok .non w' ∧ RS ro.length w' (p :: as) ((q.1, .b x :: q.2) :: fs) (c + 1)
    | .bad => ∃ w', ev (n + 1) .f_Reader_sign [.ref (ro.length + 0), .str x.s] ro w = .exn "InvalidText" [] [] w'
    | .no => True := by
  obtain ⟨k, rfl⟩ : ∃ k, n = k + 1 := ⟨n - 1, by omega⟩
  obtain ⟨n1, n2, n3, n4, n5, n6, n7, l1, l2⟩ := h.split
  have sz := h.sz (o, g) (by simp)
  have lv : ∀ w, gTab t_LEVELS (.str x.s) ro w = .ok (.int (x.lev : Nat)) w := fun w => tab_str (lev_at x)
  have e1 : ∀ w, gEq (.str x.s) (.str "<->") ro w = .ok (.bl (decide (x = .iff))) w := fun w => by rw [eq_str (bi_ok x) ok_lit, bi_iff]
  have e2 : ∀ w, gEq (.str x.s) (.str "->") ro w = .ok (.bl (decide (x = .imp))) w := fun w => by rw [eq_str (bi_ok x) ok_lit, bi_imp]
  have top := h.top (env := [some (.ref (ro.length + 0)), some (.str x.s), some (.int (x.lev : Nat)), none]) (i := 0) rfl
  have s2 := see_at (ro := ro) h.ok.2.1
  have sG : see ro w (frD ro.length p) = frD ro.length p := rfl
  have i1 : gIx (frD ro.length p) (.int 1) ro w = .ok (.ref (ro.length + p.2)) w := rfl
  have rd := e_reduce (n := k) (ro := ro) (w := w) (by omega) (k := x.cut) h hc
  rw [q_Reader_sign, x_def]
  simp only [List.length_cons, List.length_nil, Nat.zero_add, Nat.reduceAdd, if_true, List.map_cons, List.map_nil, Nat.reduceSub, List.replicate, List.cons_append, List.nil_append, List.append_nil]
  unfold b_Reader_sign
  have st1 : sSet 2 (cTab t_LEVELS (cVar 1)) [some (.ref (ro.length + 0)), some (.str x.s), none, none] ro w = .go .nx [some (.ref (ro.length + 0)), some (.str x.s), some (.int (x.lev : Nat)), none] w := by
    rw [x_set]
    simp only [x_and, x_or, x_not, x_andT, x_orT, x_notT, x_tru, x_test, x_bin, x_un, x_tup, x_lst, x_call, x_call0, x_args, x_args0, x_var, x_k, x_one, x_nil, x_if, List.getElem?_cons_zero, List.getElem?_cons_succ, ofO_ss, an_ok, List.length_cons, List.length_nil, Nat.zero_add, Nat.reduceAdd, if_true, Bool.false_eq_true, if_false, see_int, see_str, see_bl, see_lst, see_tup, see_non, bool_bl, truth_bl, st_ok, oan_nx, oan_rt, oan_bk, oan_ct, fin_rt, fin_nx, tn_nx, tn_rt, tn_ct, tn_bk, andV_bl, orV_bl, notV_bl, List.set_cons_succ, List.set_cons_zero, Bool.not_true, Bool.not_false, Bool.true_and, add_int, sub_int, eq_int, ne_int, lt_int, le_int, gt_int, ge_int, int_int, int_bl, len_lst, len_tup, List.map_cons, List.map_nil, List.length_map, x_tab, lv]
  have st2 : sSet 3 (cBin gIx (cBin gIx (cFld "Reader" "frames" (cVar 0)) (cUn gNeg (cK (.int 1)))) (cK (.int 1))) [some (.ref (ro.length + 0)), some (.str x.s), some (.int (x.lev : Nat)), none] ro w = .go .nx [some (.ref (ro.length + 0)), some (.str x.s), some (.int (x.lev : Nat)), some (.ref (ro.length + p.2))] w := by
    rw [x_set, x_bin, top, an_ok]
    simp only [x_and, x_or, x_not, x_andT, x_orT, x_notT, x_tru, x_test, x_bin, x_un, x_tup, x_lst, x_call, x_call0, x_args, x_args0, x_var, x_k, x_one, x_nil, x_if, List.getElem?_cons_zero, List.getElem?_cons_succ, ofO_ss, an_ok, List.length_cons, List.length_nil, Nat.zero_add, Nat.reduceAdd, if_true, Bool.false_eq_true, if_false, see_int, see_str, see_bl, see_lst, see_tup, see_non, bool_bl, truth_bl, st_ok, oan_nx, oan_rt, oan_bk, oan_ct, fin_rt, fin_nx, tn_nx, tn_rt, tn_ct, tn_bk, andV_bl, orV_bl, notV_bl, List.set_cons_succ, List.set_cons_zero, Bool.not_true, Bool.not_false, Bool.true_and, add_int, sub_int, eq_int, ne_int, lt_int, le_int, gt_int, ge_int, int_int, int_bl, len_lst, len_tup, List.map_cons, List.map_nil, List.length_map, sG, i1]
  rw [x_seq, st1, oan_nx, x_seq, st2, oan_nx]
  have cd : cAndT (cTest (cBin gEq (cVar 1) (cK (.str "<->")))) (cTest (cBin gIn (cK (.str "<->")) (cVar 3))) [some (.ref (ro.length + 0)), some (.str x.s), some (.int (x.lev : Nat)), some (.ref (ro.length + p.2))] ro w = .ok (decide (x = .iff ∧ Sg.b .iff ∈ g)) w := by
    have t1 : cTest (cBin gEq (cVar 1) (cK (.str "<->"))) [some (.ref (ro.length + 0)), some (.str x.s), some (.int (x.lev : Nat)), some (.ref (ro.length + p.2))] ro w = .ok (decide (x = .iff)) w := by
      simp only [x_and, x_or, x_not, x_andT, x_orT, x_notT, x_tru, x_test, x_bin, x_un, x_tup, x_lst, x_call, x_call0, x_args, x_args0, x_var, x_k, x_one, x_nil, x_if, List.getElem?_cons_zero, List.getElem?_cons_succ, ofO_ss, an_ok, List.length_cons, List.length_nil, Nat.zero_add, Nat.reduceAdd, if_true, Bool.false_eq_true, if_false, see_int, see_str, see_bl, see_lst, see_tup, see_non, bool_bl, truth_bl, st_ok, oan_nx, oan_rt, oan_bk, oan_ct, fin_rt, fin_nx, tn_nx, tn_rt, tn_ct, tn_bk, andV_bl, orV_bl, notV_bl, List.set_cons_succ, List.set_cons_zero, Bool.not_true, Bool.not_false, Bool.true_and, add_int, sub_int, eq_int, ne_int, lt_int, le_int, gt_int, ge_int, int_int, int_bl, len_lst, len_tup, List.map_cons, List.map_nil, List.length_map, e1]
    have t2 : cTest (cBin gIn (cK (.str "<->")) (cVar 3)) [some (.ref (ro.length + 0)), some (.str x.s), some (.int (x.lev : Nat)), some (.ref (ro.length + p.2))] ro w = .ok (decide (Sg.b .iff ∈ g)) w := by
      simp only [x_test, x_bin, x_k, x_var, List.getElem?_cons_zero, List.getElem?_cons_succ, ofO_ss, an_ok, see_str, s2, in_signs, bool_bl]
    rw [x_andT, t1, an_ok]
    by_cases c1 : x = .iff
    · rw [if_pos (decide_eq_true c1), t2]
      congr 1
      exact decide_eq_decide.mpr ⟨fun q => ⟨c1, q⟩, fun q => q.2⟩
    · rw [if_neg (by simp [c1]), decide_eq_false (fun q => c1 q.1)]
  rw [x_seq, x_ifS, cd, st_ok]
  by_cases c0 : x = .iff ∧ Sg.b .iff ∈ g
  · rw [if_pos c0, decide_eq_true c0, if_pos rfl]
    exact ⟨w, rfl⟩
  · rw [if_neg c0, decide_eq_false c0, if_neg Bool.false_ne_true]
    have arg : cArgs [cIf (cTest (cBin gEq (cVar 1) (cK (.str "->")))) (cBin gAdd (cVar 2) (cK (.int 1))) (cVar 2)] [some (.ref (ro.length + 0)), some (.str x.s), some (.int (x.lev : Nat)), some (.ref (ro.length + p.2))] ro w = .ok [.int (x.cut : Nat)] w := by
      rw [x_args, x_if]
      simp only [x_and, x_or, x_not, x_andT, x_orT, x_notT, x_tru, x_test, x_bin, x_un, x_tup, x_lst, x_call, x_call0, x_args, x_args0, x_var, x_k, x_one, x_nil, x_if, List.getElem?_cons_zero, List.getElem?_cons_succ, ofO_ss, an_ok, List.length_cons, List.length_nil, Nat.zero_add, Nat.reduceAdd, if_true, Bool.false_eq_true, if_false, see_int, see_str, see_bl, see_lst, see_tup, see_non, bool_bl, truth_bl, st_ok, oan_nx, oan_rt, oan_bk, oan_ct, fin_rt, fin_nx, tn_nx, tn_rt, tn_ct, tn_bk, andV_bl, orV_bl, notV_bl, List.set_cons_succ, List.set_cons_zero, Bool.not_true, Bool.not_false, Bool.true_and, add_int, sub_int, eq_int, ne_int, lt_int, le_int, gt_int, ge_int, int_int, int_bl, len_lst, len_tup, List.map_cons, List.map_nil, List.length_map, e2]
      cases x <;> rfl
    have mt : ∀ g0 : List D → M D, cMeth "Reader" "reduce" g0 (cVar 0) (cArgs [cIf (cTest (cBin gEq (cVar 1) (cK (.str "->")))) (cBin gAdd (cVar 2) (cK (.int 1))) (cVar 2)]) [some (.ref (ro.length + 0)), some (.str x.s), some (.int (x.lev : Nat)), some (.ref (ro.length + p.2))] ro w = g0 [.ref (ro.length + 0), .int (x.cut : Nat)] ro w := fun g0 => by
      rw [x_meth (o := .ref (ro.length + 0)) (w1 := w) rfl h.see0 (by decide), arg, an_ok]
    simp only [x_nil, oan_nx]
    rw [x_seq, x_expr, mt]
    simp only [List.length_cons, List.length_nil, Nat.zero_add, Nat.reduceAdd, if_true]
    cases q : red x.cut o g with
    | ok r =>
      rw [q] at rd
      obtain ⟨w', r1, r2⟩ := rd
      have s3 := see_at (ro := ro) r2.ok.2.1
      have hs : sizeLine = 16777216 := rfl
      have sz2 : r.2.length ≤ c := (r2.sz (r.1, r.2) (by simp)).2
      have ap := append_at (ro := ro) (d := .str x.s) r2.ok.2.1 (by rw [List.length_map, List.length_reverse]; exact Nat.lt_of_le_of_lt sz2 (by omega))
      have r3 := r2.sgs (g' := .b x :: r.2) (c' := c + 1) (by omega) (by simp only [List.length_cons]; omega)
      refine ⟨_, ?_, r3⟩
      rw [r1, st_ok, oan_nx, x_expr, x_ml]
      have c3 : cVar 3 [some (.ref (ro.length + 0)), some (.str x.s), some (.int (x.lev : Nat)), some (.ref (ro.length + p.2))] ro w' = .ok (.ref (ro.length + p.2)) w' := rfl
      have c1 : cVar 1 [some (.ref (ro.length + 0)), some (.str x.s), some (.int (x.lev : Nat)), some (.ref (ro.length + p.2))] ro w' = .ok (.str x.s) w' := rfl
      rw [c3, an_ok, s3, mlV_lst, x_args, c1, an_ok, x_args0, an_ok, an_ok, ap, sgD_cons]
      rfl
    | bad =>
      rw [q] at rd
      obtain ⟨w', r1⟩ := rd
      exact ⟨w', by rw [r1]; rfl⟩
    | no => trivial
end
section
variable {n m : Nat} {ro w : List D} {p : Nat × Nat} {as : List (Nat × Nat)} {o : List Fm} {g : List Sg} {f : Fr} {fs : List Fr} {c c' : Nat}
theorem clos_ht (h : ∀ a ∈ o, a.ht ≤ 60) {a : Fm} (hc : clos (o, g) = .ok a) : ∃ q, red 0 o g = .ok q ∧ q.1.getLast? = some a := by
  unfold clos at hc
  cases q : red 0 o g with
  | ok r =>
    simp only [q, Rs.bind_ok] at hc
    cases e : r.1.getLast? with
    | some b =>
      rw [e] at hc
      cases hc
      exact ⟨r, rfl, e⟩
    | none => rw [e] at hc; cases hc
  | bad => simp only [q, Rs.bind_bad] at hc; cases hc
  | no => simp only [q, Rs.bind_no] at hc; cases hc
theorem e_close (hn : 71 < n) (h : RS ro.length w (p :: as) ((o, g) :: fs) c) (hc : c < 50000) : match clos (o, g) with
    | .ok a => ∃ w', ev (n + 1) .f_Reader_close [.ref (ro.length + 0)] ro w = .ok a.toD w' ∧ RS ro.length w' as fs c ∧ a.ht ≤ 60
    | .bad => ∃ w', ev (n + 1) .f_Reader_close [.ref (ro.length + 0)] ro w = .exn "InvalidText" [] [] w'
    | .no => True := by
  obtain ⟨k, rfl⟩ : ∃ k, n = k + 1 := ⟨n - 1, by omega⟩
  have rd := e_reduce (n := k) (ro := ro) (w := w) (by omega) (k := 0) h hc
  have z0 : ((0 : Nat) : Int) = 0 := rfl
  rw [z0] at rd
  have mt : ∀ g0 : List D → M D, cMeth "Reader" "reduce" g0 (cVar 0) (cArgs [cK (.int 0)]) [some (.ref (ro.length + 0))] ro w = g0 [.ref (ro.length + 0), .int 0] ro w := fun g0 => by
    rw [x_meth (o := .ref (ro.length + 0)) (w1 := w) rfl h.see0 (by decide)]
    rfl
  have st : ev (k + 1 + 1) .f_Reader_close [.ref (ro.length + 0)] ro w = (((ev (k + 1) .f_Reader_reduce [.ref (ro.length + 0), .int 0] ro w).st [some (.ref (ro.length + 0))] fun _ w' => .go .nx [some (.ref (ro.length + 0))] w').an fun env' w' => sRet (cBin gIx (cBin gIx (cMl0 gPop (cFld "Reader" "frames" (cVar 0))) (cK (.int 0))) (cK (.int 0))) env' ro w').fin := by
    rw [q_Reader_close, x_def]
    simp only [List.length_cons, List.length_nil, Nat.zero_add, Nat.reduceAdd, if_true, List.map_cons, List.map_nil, Nat.reduceSub, List.replicate, List.cons_append, List.nil_append, List.append_nil]
    unfold b_Reader_close
    rw [x_seq, x_expr, mt]
    simp only [List.length_cons, List.length_nil, Nat.zero_add, Nat.reduceAdd, if_true]
  rw [st]
  cases hcl : clos (o, g) with
  | ok a =>
    obtain ⟨q, hq, hl⟩ := clos_ht (h.ht (o, g) (by simp)) hcl
    rw [hq] at rd
    obtain ⟨w', r1, r2⟩ := rd
    have hta : a.ht ≤ 60 := r2.ht (q.1, q.2) (by simp) a (List.mem_of_getLast? hl)
    obtain ⟨n1, n2, n3, n4, n5, n6, n7, l1, l2⟩ := r2.split
    have s3 := see_at (ro := ro) r2.fr
    have h3 : w'[3]? = some (.lst (as.reverse.map (frD ro.length) ++ [frD ro.length p])) := by
      rw [r2.fr, List.reverse_cons, List.map_append]
      rfl
    have pp := pop_lst (ro := ro) h3
    have r3 : RS ro.length (w'.set 3 (.lst (as.reverse.map (frD ro.length)))) as fs c := by
      have off := r2.off
      rw [flat_cons] at off
      simp only [List.mem_cons, not_or] at off
      have nd := r2.nd
      rw [flat_cons, List.nodup_cons, List.nodup_cons] at nd
      refine ⟨?_, List.getElem?_set_self (len_at h3), rep2_set off.2.2.2 r2.ok.2.2, nd.2.2, ⟨off.1.2.2, off.2.2.2⟩, fun i hi => by rw [List.length_set]; exact r2.lt i (by rw [flat_cons]; simp [hi]), fun f hf => r2.sz f (by simp [hf]), ?_, fun f hf => r2.ht f (by simp [hf])⟩
      · rw [List.getElem?_set_ne (by decide)]; exact r2.rd
      · have := r2.fl
        simp only [List.length_cons] at this
        omega
    refine ⟨_, ?_, r3, hta⟩
    rw [r1, st_ok, oan_nx, x_ret]
    have e1 : cMl0 gPop (cFld "Reader" "frames" (cVar 0)) [some (.ref (ro.length + 0))] ro w' = .ok (frD ro.length p) (w'.set 3 (.lst (as.reverse.map (frD ro.length)))) := by
      rw [x_ml0 (r2.fld rfl) s3]
      exact pp
    have sG : ∀ w, see ro w (frD ro.length p) = frD ro.length p := fun _ => rfl
    have i0 : ∀ w, gIx (frD ro.length p) (.int 0) ro w = .ok (.ref (ro.length + p.1)) w := fun _ => rfl
    have h4 : (w'.set 3 (.lst (as.reverse.map (frD ro.length))))[p.1]? = some (opD q.1) := by
      rw [List.getElem?_set_ne (Ne.symm n5)]
      exact r2.ok.1
    have s4 := see_at (ro := ro) h4
    have e4 : opD q.1 = .lst (a.toD :: (q.1.dropLast.reverse.map Fm.toD)) := by
      have hq1 : q.1 = q.1.dropLast ++ [a] := by
        have hne : q.1 ≠ [] := fun e => by rw [e] at hl; cases hl
        rw [List.getLast?_eq_getLast hne] at hl
        have := List.dropLast_concat_getLast hne
        rw [Option.some.inj hl] at this
        exact this.symm
      unfold opD
      rw [hq1, List.reverse_append, List.dropLast_concat]
      rfl
    rw [e4] at s4
    have i5 : ∀ w, gIx (.lst (a.toD :: (q.1.dropLast.reverse.map Fm.toD))) (.int 0) ro w = .ok a.toD w := fun w => by
      rw [ix_lst, show L2.atI (a.toD :: (q.1.dropLast.reverse.map Fm.toD)) 0 = some a.toD from atI_some (k := 0) rfl]
      rfl
    rw [x_bin, x_bin, e1, an_ok, x_k, an_ok, sG, see_int, i0, an_ok, x_k, an_ok, s4, see_int, i5, st_ok]
    rfl
  | bad =>
    unfold clos at hcl
    cases q : red 0 o g with
    | ok r =>
      simp only [q, Rs.bind_ok] at hcl
      cases e : r.1.getLast? with
      | some b => rw [e] at hcl; cases hcl
      | none => rw [e] at hcl; cases hcl
    | bad =>
      rw [q] at rd
      obtain ⟨w', r1⟩ := rd
      exact ⟨w', by rw [r1]; rfl⟩
    | no => simp only [q, Rs.bind_no] at hcl; cases hcl
  | no => trivial
end
/-! ### parse -/
def NmOk (x : Str) : Prop := PyData.strOk x = true ∧ tabHas t_PREFIXES x = false ∧ tabHas t_BINARY x = false ∧ x ≠ "(" ∧ x ≠ ")" ∧ x ≠ "F" ∧ x ≠ "T"
def TkOk : Tk → Prop
  | .nm x => NmOk x
  | _ => True
def Tk.isPre : Tk → Bool
  | .pre _ => true
  | _ => false
def Tk.isBin : Tk → Bool
  | .bin _ => true
  | _ => false
def Tk.isOp : Tk → Bool
  | .op => true
  | _ => false
def Tk.isCl : Tk → Bool
  | .cl => true
  | _ => false
theorem tk_facts {t : Tk} (h : TkOk t) : PyData.strOk t.s = true ∧ tabHas t_PREFIXES t.s = t.isPre ∧ tabHas t_BINARY t.s = t.isBin ∧ decide (t.s = ("(" : Str)) = t.isOp ∧ decide (t.s = (")" : Str)) = t.isCl := by
  cases t with
  | pre x => cases x <;> exact ⟨ok_lit, by decide, by decide, by decide, by decide⟩
  | bin x => cases x <;> exact ⟨ok_lit, by decide, by decide, by decide, by decide⟩
  | op => exact ⟨ok_lit, by decide, by decide, by decide, by decide⟩
  | cl => exact ⟨ok_lit, by decide, by decide, by decide, by decide⟩
  | fal => exact ⟨ok_lit, by decide, by decide, by decide, by decide⟩
  | ver => exact ⟨ok_lit, by decide, by decide, by decide, by decide⟩
  | nm x =>
    obtain ⟨h1, h2, h3, h4, h5, _⟩ := h
    exact ⟨h1, h2, h3, decide_eq_false h4, decide_eq_false h5⟩
def sPre : SF := sSeq (sIf (cTest (cBin gGt (cCall (one gLen) (cArgs [cBin gIx (cBin gIx (cFld "Reader" "frames" (cVar 1)) (cUn gNeg (cK (.int 1)))) (cK (.int 1))])) (cBin gMul (cK (.int 4)) (cK g_MAX_HEIGHT)))) (sRaise "InvalidText") (sNil))
  (sExpr (cMl gAppend (cBin gIx (cBin gIx (cFld "Reader" "frames" (cVar 1)) (cUn gNeg (cK (.int 1)))) (cK (.int 1))) (cArgs [cVar 3])))
def sOp : SF := sSeq (sIf (cTest (cBin gGt (cCall (one gLen) (cArgs [cFld "Reader" "frames" (cVar 1)])) (cK g_MAX_HEIGHT))) (sRaise "InvalidText") (sNil))
  (sExpr (cMl gAppend (cFld "Reader" "frames" (cVar 1)) (cArgs [cTup (cArgs [cLstM (cArgs []), cLstM (cArgs [])])])))
def cLeaf (n : Nat) : EF := cDGetD (cDisp [((cK (.str "F")), (cK g_FALSUM)), ((cK (.str "T")), (cCall0 (ev n .f_verum)))]) (cVar 3) (cTup (cArgs [cK (.str "var"), cVar 3]))
def sLeaf (n : Nat) : SF := sSeq (sExpr (cMeth "Reader" "operand" (fun ds => if ds.length = 2 then ev n .f_Reader_operand ds else M.no) (cVar 1) (cArgs [cLeaf n])))
  (sSet 2 (cK (.bl false)))
def sCl (n : Nat) : SF := sSeq (sIf (cTest (cBin gEq (cCall (one gLen) (cArgs [cFld "Reader" "frames" (cVar 1)])) (cK (.int 1)))) (sRaise "InvalidText") (sNil))
  (sExpr (cMeth "Reader" "operand" (fun ds => if ds.length = 2 then ev n .f_Reader_operand ds else M.no) (cVar 1) (cArgs [cMeth "Reader" "close" (fun ds => if ds.length = 1 then ev n .f_Reader_close ds else M.no) (cVar 1) (cArgs [])])))
def sBin (n : Nat) : SF := sSeq (sExpr (cMeth "Reader" "sign" (fun ds => if ds.length = 2 then ev n .f_Reader_sign ds else M.no) (cVar 1) (cArgs [cVar 3])))
  (sSet 2 (cK (.bl true)))
def stepB (n : Nat) : SF := sIf (cTru (cVar 2)) (sIf (cTest (cTabG t_PREFIXES (cVar 3))) sPre (sIf (cTest (cBin gEq (cVar 3) (cK (.str "(")))) sOp (sIf (cOrT (cTest (cTabG t_BINARY (cVar 3))) (cTest (cBin gEq (cVar 3) (cK (.str ")"))))) (sRaise "InvalidText") (sLeaf n))))
  (sIf (cTest (cBin gEq (cVar 3) (cK (.str ")")))) (sCl n) (sIf (cTest (cTabG t_BINARY (cVar 3))) (sBin n) (sRaise "InvalidText")))
section
variable {n m : Nat} {ro w : List D} {p : Nat × Nat} {as : List (Nat × Nat)} {o : List Fm} {g : List Sg} {f : Fr} {fs : List Fr} {c c' : Nat} {T : D} {b : Bool} {t : Tk}
abbrev pE (T : D) (m : Nat) (b : Bool) (e3 : Option D) : Fx.Env := [some T, some (.ref (m + 0)), some (.bl b), e3]
theorem sPre_ok {x : Pre} (h : RS ro.length w (p :: as) (f :: fs) c) (hc : c < 50000) : (if 240 < f.2.length then (sPre (pE T ro.length true (some (.str x.s))) ro w = .exn "InvalidText" [] [] (pE T ro.length true (some (.str x.s))) w) else
    ∃ w', sPre (pE T ro.length true (some (.str x.s))) ro w = .go .nx (pE T ro.length true (some (.str x.s))) w' ∧ RS ro.length w' (p :: as) ((f.1, .p x :: f.2) :: fs) (c + 1)) := by
  obtain ⟨o, g⟩ := f
  have s2 := see_at (ro := ro) h.ok.2.1
  have sz := h.sz (o, g) (by simp)
  have sz2 : g.length ≤ c := sz.2
  have ln : gLen (sgD g) ro w = .ok (.int ((g.length : Nat) : Int)) w := by
    rw [len_lst]
    simp
  have sG : see ro w (frD ro.length p) = frD ro.length p := rfl
  have i1 : gIx (frD ro.length p) (.int 1) ro w = .ok (.ref (ro.length + p.2)) w := rfl
  have mu : gMul (.int 4) g_MAX_HEIGHT ro w = .ok (.int 240) w := rfl
  have s60 : see ro w g_MAX_HEIGHT = g_MAX_HEIGHT := rfl
  have tp : cBin gIx (cBin gIx (cFld "Reader" "frames" (cVar 1)) (cUn gNeg (cK (.int 1)))) (cK (.int 1)) (pE T ro.length true (some (.str x.s))) ro w = .ok (.ref (ro.length + p.2)) w := by
    rw [x_bin, h.top (i := 1) rfl, an_ok]
    simp only [x_and, x_or, x_not, x_andT, x_orT, x_notT, x_tru, x_test, x_bin, x_un, x_tup, x_lst, x_call, x_call0, x_args, x_args0, x_var, x_k, x_one, x_nil, x_if, List.getElem?_cons_zero, List.getElem?_cons_succ, ofO_ss, an_ok, List.length_cons, List.length_nil, Nat.zero_add, Nat.reduceAdd, if_true, Bool.false_eq_true, if_false, see_int, see_str, see_bl, see_lst, see_tup, see_non, bool_bl, truth_bl, st_ok, oan_nx, oan_rt, oan_bk, oan_ct, fin_rt, fin_nx, tn_nx, tn_rt, tn_ct, tn_bk, andV_bl, orV_bl, notV_bl, List.set_cons_succ, List.set_cons_zero, Bool.not_true, Bool.not_false, Bool.true_and, add_int, sub_int, eq_int, ne_int, lt_int, le_int, gt_int, ge_int, int_int, int_bl, len_lst, len_tup, List.map_cons, List.map_nil, List.length_map, sG, i1]
  unfold sPre
  rw [x_seq, x_ifS]
  have cd : cTest (cBin gGt (cCall (one gLen) (cArgs [cBin gIx (cBin gIx (cFld "Reader" "frames" (cVar 1)) (cUn gNeg (cK (.int 1)))) (cK (.int 1))])) (cBin gMul (cK (.int 4)) (cK g_MAX_HEIGHT))) (pE T ro.length true (some (.str x.s))) ro w = .ok (decide (240 < g.length)) w := by
    rw [x_test, x_bin, x_call, x_args, tp]
    simp only [an_ok, x_args0, x_one, s2, ln, x_bin, x_k, see_int, s60, mu, gt_int, bool_bl]
    congr 1
    exact decide_eq_decide.mpr (by omega)
  rw [cd, st_ok]
  by_cases q : 240 < g.length
  · rw [if_pos q, decide_eq_true q, if_pos rfl]
    rfl
  · rw [if_neg q, decide_eq_false q, if_neg Bool.false_ne_true]
    have hs : sizeLine = 16777216 := rfl
    have ap := append_at (ro := ro) (d := .str x.s) h.ok.2.1 (by rw [List.length_map, List.length_reverse]; exact Nat.lt_of_le_of_lt sz2 (by omega))
    refine ⟨_, ?_, h.sgs (g' := .p x :: g) (c' := c + 1) (by omega) (by simp only [List.length_cons]; omega)⟩
    simp only [x_nil, oan_nx]
    rw [x_expr, x_ml, tp, an_ok, s2, mlV_lst, x_args]
    have c3 : cVar 3 (pE T ro.length true (some (.str x.s))) ro w = .ok (.str x.s) w := rfl
    rw [c3, an_ok, x_args0, an_ok, an_ok, ap, sgD_cons]
    rfl
theorem frs_len (h : RS ro.length w as fs c) {env : Fx.Env} (he : env[1]? = some (some (.ref (ro.length + 0)))) : cCall (one gLen) (cArgs [cFld "Reader" "frames" (cVar 1)]) env ro w = .ok (.int ((fs.length : Nat) : Int)) w := by
  have s3 := see_at (ro := ro) h.fr
  have l := rep2_len h.ok
  rw [x_call, x_args, h.fld he]
  simp only [an_ok, x_args0, x_one, s3, len_lst, List.length_map, List.length_reverse, l]
theorem sOp_ok (h : RS ro.length w as fs c) (hc : c < 50000) : (if 60 < fs.length then (sOp (pE T ro.length true (some (.str "("))) ro w = .exn "InvalidText" [] [] (pE T ro.length true (some (.str "("))) w) else
    ∃ w' as', sOp (pE T ro.length true (some (.str "("))) ro w = .go .nx (pE T ro.length true (some (.str "("))) w' ∧ RS ro.length w' as' (([], []) :: fs) (c + 1)) := by
  have s60 : see ro w g_MAX_HEIGHT = g_MAX_HEIGHT := rfl
  unfold sOp
  rw [x_seq, x_ifS]
  have cd : cTest (cBin gGt (cCall (one gLen) (cArgs [cFld "Reader" "frames" (cVar 1)])) (cK g_MAX_HEIGHT)) (pE T ro.length true (some (.str "("))) ro w = .ok (decide (60 < fs.length)) w := by
    rw [x_test, x_bin, frs_len h rfl]
    have g60 : gGt (.int ((fs.length : Nat) : Int)) g_MAX_HEIGHT ro w = .ok (.bl (decide ((60 : Int) < (fs.length : Nat)))) w := rfl
    simp only [an_ok, x_k, see_int, s60, g60, bool_bl]
    congr 1
    exact decide_eq_decide.mpr (by omega)
  rw [cd, st_ok]
  by_cases q : 60 < fs.length
  · rw [if_pos q, decide_eq_true q, if_pos rfl]
    rfl
  · rw [if_neg q, decide_eq_false q, if_neg Bool.false_ne_true]
    have hs : sizeLine = 16777216 := rfl
    have l := rep2_len h.ok
    have s3 := see_at (ro := ro) h.fr
    have l3 := len_at h.fr
    have args : cArgs [cTup (cArgs [cLstM (cArgs []), cLstM (cArgs [])])] (pE T ro.length true (some (.str "("))) ro w = .ok [frD ro.length (w.length, w.length + 1)] (w ++ [D.lst [], D.lst []]) := by
      simp only [x_args, x_args0, x_tup, x_lstM, an_ok, List.length_append, List.length_cons, List.length_nil, Nat.zero_add, List.append_assoc, List.cons_append, List.nil_append]
      unfold frD
      simp only [Nat.add_assoc]
    have h3 : (w ++ [D.lst [], .lst []])[3]? = some (.lst (as.reverse.map (frD ro.length))) := by
      rw [List.getElem?_append_left l3]
      exact h.fr
    have ap := append_at (ro := ro) (d := frD ro.length (w.length, w.length + 1)) h3 (by rw [List.length_map, List.length_reverse]; have := h.fl; omega)
    have lt := h.lt
    have nw : w.length ∉ flat as ∧ w.length + 1 ∉ flat as := ⟨fun e => by have := lt _ e; omega, fun e => by have := lt _ e; omega⟩
    refine ⟨(w ++ [D.lst [], D.lst []]).set 3 (.lst (((w.length, w.length + 1) :: as).reverse.map (frD ro.length))), (w.length, w.length + 1) :: as, ?_, ?_⟩
    · simp only [x_nil, oan_nx]
      rw [x_expr, x_ml, h.fld rfl, an_ok, s3, mlV_lst, args, an_ok, ap, st_ok, List.reverse_cons, List.map_append]
      rfl
    · have g0 : ∀ d : D, ((w ++ [D.lst [], D.lst []]).set 3 d)[w.length]? = some (.lst []) := fun d => by
        rw [List.getElem?_set_ne (by omega), List.getElem?_append_right (Nat.le_refl _), Nat.sub_self]
        rfl
      have g1 : ∀ d : D, ((w ++ [D.lst [], D.lst []]).set 3 d)[w.length + 1]? = some (.lst []) := fun d => by
        rw [List.getElem?_set_ne (by omega), List.getElem?_append_right (by omega), Nat.add_sub_cancel_left]
        rfl
      refine ⟨?_, List.getElem?_set_self (by rw [List.length_append]; omega), ⟨g0 _, g1 _, rep2_set h.off.2 (rep2_app h.ok)⟩, ?_, ?_, fun i hi => ?_, fun f hf => ?_, by simp only [List.length_cons]; omega, fun f hf => ?_⟩
      · rw [List.getElem?_set_ne (by decide), List.getElem?_append_left (len_at h.rd)]
        exact h.rd
      · rw [flat_cons, List.nodup_cons, List.nodup_cons]
        refine ⟨?_, nw.2, h.nd⟩
        simp only [List.mem_cons, not_or]
        exact ⟨by omega, nw.1⟩
      · rw [flat_cons]
        have l0 := len_at h.rd
        simp only [List.mem_cons, not_or]
        exact ⟨⟨by omega, by omega, h.off.1⟩, ⟨by omega, by omega, h.off.2⟩⟩
      · rw [List.length_set, List.length_append]
        rw [flat_cons] at hi
        simp only [List.mem_cons] at hi
        simp only [List.length_cons, List.length_nil]
        rcases hi with rfl | rfl | hi
        · omega
        · omega
        · have := lt i hi
          omega
      · rcases List.mem_cons.mp hf with rfl | hf
        · exact ⟨by simp, by simp⟩
        · exact ⟨Nat.le_succ_of_le (h.sz f hf).1, Nat.le_succ_of_le (h.sz f hf).2⟩
      · rcases List.mem_cons.mp hf with rfl | hf
        · exact fun a ha => by simp at ha
        · exact h.ht f hf
end
section
variable {n m : Nat} {ro w : List D} {p : Nat × Nat} {as : List (Nat × Nat)} {o : List Fm} {g : List Sg} {f : Fr} {fs : List Fr} {c c' : Nat} {T : D} {b : Bool} {t : Tk}
theorem e_verum (h : 1 < n) : ev n .f_verum [] ro w = .ok (Fm.imp .fal .fal).toD w := by
  obtain ⟨k, rfl⟩ : ∃ k, n = k + 2 := ⟨n - 2, by omega⟩
  rw [q_verum, x_def]
  simp only [List.length_nil, Nat.sub_self, List.replicate, if_true, List.map_nil, List.append_nil]
  unfold b_verum
  have q1 : ∀ w, ev (k + 1) .f_neg [Fm.fal.toD] ro w = .ok (Pre.neg.app .fal).toD w := fun w => e_neg
  have q2 : ∀ w, ev (k + 1) .f_neg [g_FALSUM] ro w = .ok (Pre.neg.app .fal).toD w := q1
  rw [x_ret]
  simp only [x_and, x_or, x_not, x_andT, x_orT, x_notT, x_tru, x_test, x_bin, x_un, x_tup, x_lst, x_call, x_call0, x_args, x_args0, x_var, x_k, x_one, x_nil, x_if, List.getElem?_cons_zero, List.getElem?_cons_succ, ofO_ss, an_ok, List.length_cons, List.length_nil, Nat.zero_add, Nat.reduceAdd, if_true, Bool.false_eq_true, if_false, see_int, see_str, see_bl, see_lst, see_tup, see_non, bool_bl, truth_bl, st_ok, oan_nx, oan_rt, oan_bk, oan_ct, fin_rt, fin_nx, tn_nx, tn_rt, tn_ct, tn_bk, andV_bl, orV_bl, notV_bl, List.set_cons_succ, List.set_cons_zero, Bool.not_true, Bool.not_false, Bool.true_and, add_int, sub_int, eq_int, ne_int, lt_int, le_int, gt_int, ge_int, int_int, int_bl, len_lst, len_tup, List.map_cons, List.map_nil, List.length_map, q2]
  rfl
theorem disp_ok (h : 1 < n) {env : Fx.Env} : cDisp [((cK (.str "F")), (cK g_FALSUM)), ((cK (.str "T")), (cCall0 (ev n .f_verum)))] env ro w = .ok (.dic [.str "F", .str "T"] [Fm.fal.toD, (Fm.imp .fal .fal).toD]) w := by
  show M.bind (cPairs _ env) gDisp ro w = _
  unfold cPairs
  simp only [x_bind, x_k, an_ok]
  unfold cPairs
  simp only [x_bind, x_k, an_ok, x_call0, e_verum h]
  unfold cPairs
  rfl
theorem cLeaf_ok (h : 1 < n) {x : Str} {a : Fm} (ha : leafOf t = some a) (ht : TkOk t) : cLeaf n (pE T ro.length true (some (.str t.s))) ro w = .ok a.toD w := by
  have c3 : ∀ w, cVar 3 (pE T ro.length true (some (.str t.s))) ro w = .ok (.str t.s) w := fun _ => rfl
  have sd : ∀ ks xs, see ro w (D.dic ks xs) = .dic ks xs := fun _ _ => rfl
  have ss : see ro w (.str t.s) = .str t.s := rfl
  unfold cLeaf
  rw [x_dgetD, disp_ok h, an_ok, sd]
  have id : isDic (.dic [.str "F", .str "T"] [Fm.fal.toD, (Fm.imp .fal .fal).toD]) = true := rfl
  rw [id, if_pos rfl, c3, an_ok, x_tup, x_args, x_k, an_ok, x_args, c3, an_ok, x_args0, an_ok, an_ok, an_ok, an_ok, sd, dgetD_eq rfl]
  cases t with
  | fal => cases ha; rfl
  | ver => cases ha; rfl
  | nm y =>
    cases ha
    obtain ⟨_, _, _, _, _, h6, h7⟩ := ht
    have k1 : ¬ keyOf (.str "F") = keyOf (.str y) := fun e => h6 (by injection e with e; injection e with e; exact e.symm)
    have k2 : ¬ keyOf (.str "T") = keyOf (.str y) := fun e => h7 (by injection e with e; injection e with e; exact e.symm)
    show Out.ok ((dget [.str "F", .str "T"] [Fm.fal.toD, (Fm.imp .fal .fal).toD] (.str y)).getD _) w = _
    unfold dget
    rw [if_neg k1]
    unfold dget
    rw [if_neg k2]
    rfl
  | pre x => cases ha
  | bin x => cases ha
  | op => cases ha
  | cl => cases ha
theorem leaf_ht {t : Tk} {a : Fm} (ha : leafOf t = some a) : a.ht ≤ 60 := by
  cases t with
  | fal => cases ha; decide
  | ver => cases ha; decide
  | nm y => cases ha; simp only [Fm.ht]; decide
  | pre x => cases ha
  | bin x => cases ha
  | op => cases ha
  | cl => cases ha
theorem sLeaf_ok (hn : 72 < n) {a : Fm} (ha : leafOf t = some a) (ht : TkOk t) (h : RS ro.length w (p :: as) (f :: fs) c) (hc : c < 40000) : match give a f fs with
    | .ok s => ∃ w', sLeaf n (pE T ro.length true (some (.str t.s))) ro w = .go .nx (pE T ro.length s.2 (some (.str t.s))) w' ∧ RS ro.length w' (p :: as) s.1 (c + 1)
    | .bad => ∃ e' w', sLeaf n (pE T ro.length true (some (.str t.s))) ro w = .exn "InvalidText" [] [] e' w'
    | .no => True := by
  obtain ⟨o, g⟩ := f
  obtain ⟨k, rfl⟩ : ∃ k, n = k + 1 := ⟨n - 1, by omega⟩
  have eo := e_operand (n := k) (ro := ro) (w := w) (by omega) h (leaf_ht ha) (by omega)
  have mt : ∀ g0 : List D → M D, cMeth "Reader" "operand" g0 (cVar 1) (cArgs [cLeaf (k + 1)]) (pE T ro.length true (some (.str t.s))) ro w = g0 [.ref (ro.length + 0), a.toD] ro w := fun g0 => by
    rw [x_meth (o := .ref (ro.length + 0)) (w1 := w) rfl h.see0 (by decide), x_args, cLeaf_ok (x := "") (by omega) ha ht]
    simp only [an_ok, x_args0]
  unfold sLeaf
  rw [x_seq, x_expr, mt]
  simp only [List.length_cons, List.length_nil, Nat.zero_add, Nat.reduceAdd, if_true]
  unfold give
  cases q : opnd a g with
  | ok r =>
    rw [q] at eo
    obtain ⟨w', r1, r2⟩ := eo
    exact ⟨w', by rw [r1]; rfl, r2⟩
  | bad =>
    rw [q] at eo
    obtain ⟨w', r1⟩ := eo
    exact ⟨_, w', by rw [r1]; rfl⟩
  | no => trivial
theorem sBin_ok (hn : 72 < n) {x : Bi} (h : RS ro.length w (p :: as) (f :: fs) c) (hc : c < 40000) : match step (f :: fs, false) (.bin x) with
    | .ok s => ∃ w', sBin n (pE T ro.length false (some (.str x.s))) ro w = .go .nx (pE T ro.length s.2 (some (.str x.s))) w' ∧ RS ro.length w' (p :: as) s.1 (c + 1)
    | .bad => ∃ e' w', sBin n (pE T ro.length false (some (.str x.s))) ro w = .exn "InvalidText" [] [] e' w'
    | .no => True := by
  obtain ⟨o, g⟩ := f
  obtain ⟨k, rfl⟩ : ∃ k, n = k + 1 := ⟨n - 1, by omega⟩
  have es := e_sign (n := k) (ro := ro) (w := w) (by omega) (x := x) h (by omega)
  have mt : ∀ g0 : List D → M D, cMeth "Reader" "sign" g0 (cVar 1) (cArgs [cVar 3]) (pE T ro.length false (some (.str x.s))) ro w = g0 [.ref (ro.length + 0), .str x.s] ro w := fun g0 => by
    rw [x_meth (o := .ref (ro.length + 0)) (w1 := w) rfl h.see0 (by decide)]
    rfl
  unfold sBin
  rw [x_seq, x_expr, mt]
  simp only [List.length_cons, List.length_nil, Nat.zero_add, Nat.reduceAdd, if_true]
  have e : step ((o, g) :: fs, false) (.bin x) = (if x = .iff ∧ Sg.b .iff ∈ g then (Rs.bad : Rs (List Fm × List Sg)) else red x.cut o g).bind fun c => .ok ((c.1, .b x :: c.2) :: fs, true) := by
    show (if x = .iff ∧ Sg.b .iff ∈ g then Rs.bad else (red x.cut o g).bind fun c => .ok ((c.1, .b x :: c.2) :: fs, true)) = _
    by_cases c0 : x = .iff ∧ Sg.b .iff ∈ g
    · rw [if_pos c0, if_pos c0]; rfl
    · rw [if_neg c0, if_neg c0]
  rw [e]
  cases q : (if x = .iff ∧ Sg.b .iff ∈ g then (Rs.bad : Rs (List Fm × List Sg)) else red x.cut o g) with
  | ok r =>
    rw [q] at es
    obtain ⟨w', r1, r2⟩ := es
    exact ⟨w', by rw [r1]; rfl, r2⟩
  | bad =>
    rw [q] at es
    obtain ⟨w', r1⟩ := es
    exact ⟨_, w', by rw [r1]; rfl⟩
  | no => trivial
theorem sCl_ok (hn : 73 < n) (h : RS ro.length w as (f :: fs) c) (hc : c < 40000) : match step (f :: fs, false) .cl with
    | .ok s => ∃ w' as', sCl n (pE T ro.length false (some (.str ")"))) ro w = .go .nx (pE T ro.length s.2 (some (.str ")"))) w' ∧ RS ro.length w' as' s.1 (c + 1)
    | .bad => ∃ e' w', sCl n (pE T ro.length false (some (.str ")"))) ro w = .exn "InvalidText" [] [] e' w'
    | .no => True := by
  obtain ⟨o, g⟩ := f
  obtain ⟨k, rfl⟩ : ∃ k, n = k + 1 := ⟨n - 1, by omega⟩
  have l := rep2_len h.ok
  have cd : cTest (cBin gEq (cCall (one gLen) (cArgs [cFld "Reader" "frames" (cVar 1)])) (cK (.int 1))) (pE T ro.length false (some (.str ")"))) ro w = .ok (decide (fs = [])) w := by
    rw [x_test, x_bin, frs_len h rfl]
    simp only [an_ok, x_k, see_int, eq_int, bool_bl]
    congr 1
    refine decide_eq_decide.mpr ?_
    cases fs with
    | nil => simp
    | cons y ys => simp only [List.length_cons]; constructor <;> intro e <;> first | omega | cases e
  unfold sCl
  rw [x_seq, x_ifS, cd, st_ok]
  cases fs with
  | nil =>
    exact ⟨_, _, rfl⟩
  | cons f2 fs =>
    obtain ⟨o2, g2⟩ := f2
    match as, h, l with
    | p :: p2 :: as, h, _ =>
      have ec := e_close (n := k) (ro := ro) (w := w) (by omega) h (by omega)
      show match (clos (o, g)).bind fun a => give a (o2, g2) fs with
        | .ok s => _
        | .bad => _
        | .no => True
      have mc : ∀ g0 : List D → M D, cMeth "Reader" "close" g0 (cVar 1) (cArgs []) (pE T ro.length false (some (.str ")"))) ro w = g0 [.ref (ro.length + 0)] ro w := fun g0 => by
        rw [x_meth (o := .ref (ro.length + 0)) (w1 := w) rfl h.see0 (by decide)]
        rfl
      have mt : ∀ g0 : List D → M D, ∀ fs', cMeth "Reader" "operand" g0 (cVar 1) fs' (pE T ro.length false (some (.str ")"))) ro w = (fs' (pE T ro.length false (some (.str ")"))) ro w).an fun ds w2 => g0 (.ref (ro.length + 0) :: ds) ro w2 := fun g0 fs' => by
        rw [x_meth (o := .ref (ro.length + 0)) (w1 := w) rfl h.see0 (by decide)]
      rw [decide_eq_false (by simp), if_neg Bool.false_ne_true]
      simp only [x_nil, oan_nx]
      rw [x_expr, mt, x_args, mc]
      simp only [List.length_cons, List.length_nil, Nat.zero_add, Nat.reduceAdd, if_true]
      cases q : clos (o, g) with
      | ok a =>
        rw [q] at ec
        obtain ⟨w', r1, r2, ha⟩ := ec
        have eo := e_operand (n := k) (ro := ro) (w := w') (by omega) r2 ha (by omega)
        rw [r1]
        simp only [Rs.bind_ok, an_ok, x_args0, List.length_cons, List.length_nil, Nat.zero_add, Nat.reduceAdd, if_true]
        unfold give
        cases q2 : opnd a g2 with
        | ok r =>
          rw [q2] at eo
          obtain ⟨w2, r3, r4⟩ := eo
          exact ⟨w2, _, by rw [r3]; rfl, r4⟩
        | bad =>
          rw [q2] at eo
          obtain ⟨w2, r3⟩ := eo
          exact ⟨_, w2, by rw [r3]; rfl⟩
        | no => trivial
      | bad =>
        rw [q] at ec
        obtain ⟨w', r1⟩ := ec
        exact ⟨_, w', by rw [r1]; rfl⟩
      | no => trivial
    | [], _, l => simp at l
    | [_], _, l => simp at l
theorem step_ok (hn : 73 < n) (ht : TkOk t) (h : RS ro.length w as fs c) (hc : c < 40000) : match step (fs, b) t with
    | .ok s => ∃ w' as', stepB n (pE T ro.length b (some (.str t.s))) ro w = .go .nx (pE T ro.length s.2 (some (.str t.s))) w' ∧ RS ro.length w' as' s.1 (c + 1)
    | .bad => ∃ e' w', stepB n (pE T ro.length b (some (.str t.s))) ro w = .exn "InvalidText" [] [] e' w'
    | .no => True := by
  cases fs with
  | nil => trivial
  | cons f fs =>
    have l := rep2_len h.ok
    match as, h, l with
    | [], _, l => simp at l
    | p :: as, h, _ =>
      obtain ⟨k1, k2, k3, k4, k5⟩ := tk_facts ht
      have v2 : ∀ w, cTru (cVar 2) (pE T ro.length b (some (.str t.s))) ro w = .ok b w := fun _ => rfl
      have tp : ∀ w, cTest (cTabG t_PREFIXES (cVar 3)) (pE T ro.length b (some (.str t.s))) ro w = .ok t.isPre w := fun w => by
        rw [← k2]; rfl
      have tb : ∀ w, cTest (cTabG t_BINARY (cVar 3)) (pE T ro.length b (some (.str t.s))) ro w = .ok t.isBin w := fun w => by
        rw [← k3]; rfl
      have to : ∀ w, cTest (cBin gEq (cVar 3) (cK (.str "("))) (pE T ro.length b (some (.str t.s))) ro w = .ok t.isOp w := fun w => by
        rw [← k4]
        simp only [x_and, x_or, x_not, x_andT, x_orT, x_notT, x_tru, x_test, x_bin, x_un, x_tup, x_lst, x_call, x_call0, x_args, x_args0, x_var, x_k, x_one, x_nil, x_if, List.getElem?_cons_zero, List.getElem?_cons_succ, ofO_ss, an_ok, List.length_cons, List.length_nil, Nat.zero_add, Nat.reduceAdd, if_true, Bool.false_eq_true, if_false, see_int, see_str, see_bl, see_lst, see_tup, see_non, bool_bl, truth_bl, st_ok, oan_nx, oan_rt, oan_bk, oan_ct, fin_rt, fin_nx, tn_nx, tn_rt, tn_ct, tn_bk, andV_bl, orV_bl, notV_bl, List.set_cons_succ, List.set_cons_zero, Bool.not_true, Bool.not_false, Bool.true_and, add_int, sub_int, eq_int, ne_int, lt_int, le_int, gt_int, ge_int, int_int, int_bl, len_lst, len_tup, List.map_cons, List.map_nil, List.length_map, eq_str k1 (show PyData.strOk "(" = true from ok_lit)]
      have tc : ∀ w, cTest (cBin gEq (cVar 3) (cK (.str ")"))) (pE T ro.length b (some (.str t.s))) ro w = .ok t.isCl w := fun w => by
        rw [← k5]
        simp only [x_and, x_or, x_not, x_andT, x_orT, x_notT, x_tru, x_test, x_bin, x_un, x_tup, x_lst, x_call, x_call0, x_args, x_args0, x_var, x_k, x_one, x_nil, x_if, List.getElem?_cons_zero, List.getElem?_cons_succ, ofO_ss, an_ok, List.length_cons, List.length_nil, Nat.zero_add, Nat.reduceAdd, if_true, Bool.false_eq_true, if_false, see_int, see_str, see_bl, see_lst, see_tup, see_non, bool_bl, truth_bl, st_ok, oan_nx, oan_rt, oan_bk, oan_ct, fin_rt, fin_nx, tn_nx, tn_rt, tn_ct, tn_bk, andV_bl, orV_bl, notV_bl, List.set_cons_succ, List.set_cons_zero, Bool.not_true, Bool.not_false, Bool.true_and, add_int, sub_int, eq_int, ne_int, lt_int, le_int, gt_int, ge_int, int_int, int_bl, len_lst, len_tup, List.map_cons, List.map_nil, List.length_map, eq_str k1 (show PyData.strOk ")" = true from ok_lit)]
      unfold stepB
      rw [x_ifS, v2, st_ok]
      cases b with
      | true =>
        rw [if_pos rfl, x_ifS, tp, st_ok]
        cases t with
        | pre x =>
          rw [show Tk.isPre (.pre x) = true from rfl, if_pos rfl]
          have z := sPre_ok (T := T) (x := x) h (by omega)
          show match (if 240 < f.2.length then Rs.bad else Rs.ok ((f.1, .p x :: f.2) :: fs, true)) with
            | .ok s => _
            | .bad => _
            | .no => True
          by_cases q : 240 < f.2.length
          · rw [if_pos q] at z ⊢
            exact ⟨_, _, z⟩
          · rw [if_neg q] at z ⊢
            obtain ⟨w', z1, z2⟩ := z
            exact ⟨w', _, z1, z2⟩
        | op =>
          rw [show Tk.isPre .op = false from rfl, if_neg Bool.false_ne_true, x_ifS, to, st_ok, show Tk.isOp .op = true from rfl, if_pos rfl]
          have z := sOp_ok (T := T) h (by omega)
          show match (if 60 < fs.length + 1 then Rs.bad else Rs.ok (([], []) :: f :: fs, true)) with
            | .ok s => _
            | .bad => _
            | .no => True
          by_cases q : 60 < fs.length + 1
          · rw [if_pos (by simpa using q)] at z
            rw [if_pos q]
            exact ⟨_, _, z⟩
          · rw [if_neg (by simpa using q)] at z
            rw [if_neg q]
            obtain ⟨w', as', z1, z2⟩ := z
            exact ⟨w', as', z1, z2⟩
        | bin x =>
          rw [show Tk.isPre (.bin x) = false from rfl, if_neg Bool.false_ne_true, x_ifS, to, st_ok, show Tk.isOp (.bin x) = false from rfl, if_neg Bool.false_ne_true, x_ifS, x_orT, tb]
          exact ⟨_, _, rfl⟩
        | cl =>
          rw [show Tk.isPre .cl = false from rfl, if_neg Bool.false_ne_true, x_ifS, to, st_ok, show Tk.isOp .cl = false from rfl, if_neg Bool.false_ne_true, x_ifS, x_orT, tb, an_ok, show Tk.isBin .cl = false from rfl, if_neg Bool.false_ne_true, tc]
          exact ⟨_, _, rfl⟩
        | fal =>
          rw [show Tk.isPre .fal = false from rfl, if_neg Bool.false_ne_true, x_ifS, to, st_ok, show Tk.isOp .fal = false from rfl, if_neg Bool.false_ne_true, x_ifS, x_orT, tb, an_ok, show Tk.isBin .fal = false from rfl, if_neg Bool.false_ne_true, tc, st_ok, show Tk.isCl .fal = false from rfl, if_neg Bool.false_ne_true]
          have z := sLeaf_ok (T := T) (n := n) (by omega) (t := .fal) rfl ht h hc
          show match give .fal f fs with
            | .ok s => _
            | .bad => _
            | .no => True
          cases q : give .fal f fs with
          | ok s => rw [q] at z; obtain ⟨w', z1, z2⟩ := z; exact ⟨w', _, z1, z2⟩
          | bad => rw [q] at z; exact z
          | no => trivial
        | ver =>
          rw [show Tk.isPre .ver = false from rfl, if_neg Bool.false_ne_true, x_ifS, to, st_ok, show Tk.isOp .ver = false from rfl, if_neg Bool.false_ne_true, x_ifS, x_orT, tb, an_ok, show Tk.isBin .ver = false from rfl, if_neg Bool.false_ne_true, tc, st_ok, show Tk.isCl .ver = false from rfl, if_neg Bool.false_ne_true]
          have z := sLeaf_ok (T := T) (n := n) (by omega) (t := .ver) rfl ht h hc
          show match give (.imp .fal .fal) f fs with
            | .ok s => _
            | .bad => _
            | .no => True
          cases q : give (.imp .fal .fal) f fs with
          | ok s => rw [q] at z; obtain ⟨w', z1, z2⟩ := z; exact ⟨w', _, z1, z2⟩
          | bad => rw [q] at z; exact z
          | no => trivial
        | nm x =>
          rw [show Tk.isPre (.nm x) = false from rfl, if_neg Bool.false_ne_true, x_ifS, to, st_ok, show Tk.isOp (.nm x) = false from rfl, if_neg Bool.false_ne_true, x_ifS, x_orT, tb, an_ok, show Tk.isBin (.nm x) = false from rfl, if_neg Bool.false_ne_true, tc, st_ok, show Tk.isCl (.nm x) = false from rfl, if_neg Bool.false_ne_true]
          have z := sLeaf_ok (T := T) (n := n) (by omega) (t := .nm x) rfl ht h hc
          show match give (.var x) f fs with
            | .ok s => _
            | .bad => _
            | .no => True
          cases q : give (.var x) f fs with
          | ok s => rw [q] at z; obtain ⟨w', z1, z2⟩ := z; exact ⟨w', _, z1, z2⟩
          | bad => rw [q] at z; exact z
          | no => trivial
      | false =>
        rw [if_neg Bool.false_ne_true, x_ifS, tc, st_ok]
        cases t with
        | cl =>
          rw [show Tk.isCl .cl = true from rfl, if_pos rfl]
          exact sCl_ok hn h hc
        | bin x =>
          rw [show Tk.isCl (.bin x) = false from rfl, if_neg Bool.false_ne_true, x_ifS, tb, st_ok, show Tk.isBin (.bin x) = true from rfl, if_pos rfl]
          have z := sBin_ok (T := T) (n := n) (by omega) (x := x) h hc
          cases q : step (f :: fs, false) (.bin x) with
          | ok s => rw [q] at z; obtain ⟨w', z1, z2⟩ := z; exact ⟨w', _, z1, z2⟩
          | bad => rw [q] at z; exact z
          | no => trivial
        | pre x =>
          rw [show Tk.isCl (.pre x) = false from rfl, if_neg Bool.false_ne_true, x_ifS, tb, st_ok, show Tk.isBin (.pre x) = false from rfl, if_neg Bool.false_ne_true]
          exact ⟨_, _, rfl⟩
        | op =>
          rw [show Tk.isCl .op = false from rfl, if_neg Bool.false_ne_true, x_ifS, tb, st_ok, show Tk.isBin .op = false from rfl, if_neg Bool.false_ne_true]
          exact ⟨_, _, rfl⟩
        | fal =>
          rw [show Tk.isCl .fal = false from rfl, if_neg Bool.false_ne_true, x_ifS, tb, st_ok, show Tk.isBin .fal = false from rfl, if_neg Bool.false_ne_true]
          exact ⟨_, _, rfl⟩
        | ver =>
          rw [show Tk.isCl .ver = false from rfl, if_neg Bool.false_ne_true, x_ifS, tb, st_ok, show Tk.isBin .ver = false from rfl, if_neg Bool.false_ne_true]
          exact ⟨_, _, rfl⟩
        | nm x =>
          rw [show Tk.isCl (.nm x) = false from rfl, if_neg Bool.false_ne_true, x_ifS, tb, st_ok, show Tk.isBin (.nm x) = false from rfl, if_neg Bool.false_ne_true]
          exact ⟨_, _, rfl⟩
end
/-! ### the tokens of a text -/
abbrev cp (x : Str) : List Nat := x.cps.toList
abbrev mkS (l : List Nat) : Str := ⟨l.toArray⟩
theorem cp_len (x : Str) : (cp x).length = x.length := by simp [Str.length]
theorem mk_cp (x : Str) : mkS (cp x) = x := by
  obtain ⟨⟨l⟩⟩ := x
  rfl
theorem cp_inj {x y : Str} (h : cp x = cp y) : x = y := by rw [← mk_cp x, ← mk_cp y, h]
theorem cp_app (x y : Str) : cp (x ++ y) = cp x ++ cp y := by
  show (x.cps ++ y.cps).toList = _
  exact Array.toList_append
def leS : Str := "abcdefghijklmnopqrstuvwxyz"
def alS : Str := leS ++ "0123456789"
def alB (c : Nat) : Bool := decide (c ∈ cp alS)
def leB (c : Nat) : Bool := decide (c ∈ cp leS)
def SG : List Str := ["<->", "->", "[]", "<>", "F", "T", "~", "&", "|", "(", ")"]
/-- a name's signs -/
def NameL (x : List Nat) : Prop := x.length ≤ 12 ∧ (∀ c ∈ x, alB c = true) ∧ ∃ c r, x = c :: r ∧ leB c = true
inductive Lx : List Nat → List Str → Prop where
  | nil : Lx [] []
  | sp {l : List Nat} {ws : List Str} : Lx l ws → Lx (32 :: l) ws
  | nm {x l : List Nat} {ws : List Str} : NameL x → (∀ c r, l = c :: r → alB c = false) → Lx l ws → Lx (x ++ l) (mkS x :: ws)
  | sg {s : Str} {l : List Nat} {ws : List Str} : s ∈ SG → Lx l ws → Lx (cp s ++ l) (s :: ws)
theorem c_1 : cp "<->" = [60, 45, 62] := by decide
theorem c_2 : cp "->" = [45, 62] := by decide
theorem c_3 : cp "[]" = [91, 93] := by decide
theorem c_4 : cp "<>" = [60, 62] := by decide
theorem c_5 : cp "F" = [70] := by decide
theorem c_6 : cp "T" = [84] := by decide
theorem c_7 : cp "~" = [126] := by decide
theorem c_8 : cp "&" = [38] := by decide
theorem c_9 : cp "|" = [124] := by decide
theorem c_10 : cp "(" = [40] := by decide
theorem c_11 : cp ")" = [41] := by decide
theorem take_pre (y l : List Nat) : decide (l.take y.length = y) = y.isPrefixOf l := by
  rw [Bool.eq_iff_iff, decide_eq_true_eq, List.isPrefixOf_iff_prefix, List.prefix_iff_eq_take]
  exact ⟨Eq.symm, Eq.symm⟩
theorem fits_one {s : Str} (hs : s ∈ SG) (l : List Nat) : SG.filter (fun t => (cp t).isPrefixOf (cp s ++ l)) = [s] := by
  simp only [SG, List.mem_cons, List.not_mem_nil, or_false] at hs
  rcases hs with rfl | rfl | rfl | rfl | rfl | rfl | rfl | rfl | rfl | rfl | rfl <;>
    (simp only [SG, List.filter_cons, List.filter_nil, c_1, c_2, c_3, c_4, c_5, c_6, c_7, c_8, c_9, c_10, c_11, List.cons_append, List.nil_append, List.isPrefixOf]
     rfl)
theorem sg_head {s : Str} (hs : s ∈ SG) : ∃ c r, cp s = c :: r ∧ c ≠ 32 ∧ alB c = false := by
  simp only [SG, List.mem_cons, List.not_mem_nil, or_false] at hs
  rcases hs with rfl | rfl | rfl | rfl | rfl | rfl | rfl | rfl | rfl | rfl | rfl
  · exact ⟨_, _, c_1, by decide, by decide⟩
  · exact ⟨_, _, c_2, by decide, by decide⟩
  · exact ⟨_, _, c_3, by decide, by decide⟩
  · exact ⟨_, _, c_4, by decide, by decide⟩
  · exact ⟨_, _, c_5, by decide, by decide⟩
  · exact ⟨_, _, c_6, by decide, by decide⟩
  · exact ⟨_, _, c_7, by decide, by decide⟩
  · exact ⟨_, _, c_8, by decide, by decide⟩
  · exact ⟨_, _, c_9, by decide, by decide⟩
  · exact ⟨_, _, c_10, by decide, by decide⟩
  · exact ⟨_, _, c_11, by decide, by decide⟩
theorem al_32 : alB 32 = false := by decide
theorem le_al {c : Nat} (h : leB c = true) : alB c = true := by
  unfold leB at h
  unfold alB alS
  rw [cp_app]
  exact decide_eq_true (List.mem_append_left _ (of_decide_eq_true h))
theorem starts_at {x y : Str} {i : Nat} (hi : i ≤ x.length) : Txt.startswith3 x y (i : Int) = (cp y).isPrefixOf ((cp x).drop i) := by
  rw [← take_pre]
  have hf : PySem.fromIndex x.length (i : Int) = i := by
    unfold PySem.fromIndex
    omega
  unfold Txt.startswith3
  rw [hf, PySem.StrLaws.subAt_eq, Bool.eq_iff_iff]
  simp only [Bool.and_eq_true, decide_eq_true_eq, beq_iff_eq]
  have e : y.length = (cp y).length := (cp_len y).symm
  rw [e]
  constructor
  · exact fun h => h.2
  · intro h
    refine ⟨?_, h⟩
    have l := congrArg List.length h
    rw [List.length_take, List.length_drop, cp_len x] at l
    omega
section
variable {ro w : List D} {X : Str}
theorem ix_cp {i c : Nat} (hX : X.length ≤ 16777216) (h : (cp X)[i]? = some c) : gIx (.str X) (.int (i : Int)) ro w = .ok (.str (mkS [c])) w := by
  have hs : sizeLine = 16777216 := rfl
  unfold gIx
  simp only [hs, if_pos hX, atI_some h]
theorem in_al {c : Nat} : gIn (.str (mkS [c])) (.str alS) ro w = .ok (.bl (alB c)) w := rfl
theorem in_le {c : Nat} : gNotIn (.str (mkS [c])) (.str leS) ro w = .ok (.bl (!leB c)) w := rfl
theorem add_al {w : List D} : gAdd g_LETTERS (.str "0123456789") ro w = .ok (.str alS) w := by
  show gAdd (.str leS) (.str "0123456789") ro w = _
  show (if leS.length + ("0123456789" : Str).length ≤ sizeLine then Out.ok (D.str (leS ++ "0123456789")) w else .no) = _
  rw [if_pos (by decide)]
  try rfl
theorem len_X (hX : X.length ≤ 16777216) : gLen (.str X) ro w = .ok (.int (X.length : Nat)) w := by
  have hs : sizeLine = 16777216 := rfl
  rw [len_str, hs, if_pos hX]
theorem sl_X (hX : X.length ≤ 16777216) {a b : Nat} (hb : b ≤ X.length) : gSl (.str X) (some (a : Int)) (some (b : Int)) ro w = .ok (.str (mkS (((cp X).drop a).take (b - a)))) w := by
  have hs : sizeLine = 16777216 := rfl
  show (if X.length ≤ sizeLine then Out.ok (D.str (cutS X (some (a : Int)) (some (b : Int)))) w else .no) = _
  rw [hs, if_pos hX]
  congr 2
  unfold cutS
  rw [HT.sIx_nat, HT.sIx_nat, Nat.min_eq_left hb]
  by_cases c : a ≤ X.length
  · rw [Nat.min_eq_left c]
  · rw [Nat.min_eq_right (by omega), List.drop_of_length_le (by rw [cp_len]; exact Nat.le_refl _), List.drop_of_length_le (by rw [cp_len]; omega)]
    simp
end
section
variable {n : Nat} {ro w : List D} {X : Str}
theorem str_ok {x : Str} (h : ∀ c ∈ cp x, c < 1114112) : PyData.strOk x = true := by
  unfold PyData.strOk
  rw [← Array.all_toList, List.all_eq_true]
  exact fun c hc => decide_eq_true (h c hc)
theorem al_small {c : Nat} (h : alB c = true) : c < 1114112 := by
  have : c ∈ cp alS := of_decide_eq_true h
  have e : cp alS = [97, 98, 99, 100, 101, 102, 103, 104, 105, 106, 107, 108, 109, 110, 111, 112, 113, 114, 115, 116, 117, 118, 119, 120, 121, 122, 48, 49, 50, 51, 52, 53, 54, 55, 56, 57] := by decide
  rw [e] at this
  have key : ∀ c ∈ [97, 98, 99, 100, 101, 102, 103, 104, 105, 106, 107, 108, 109, 110, 111, 112, 113, 114, 115, 116, 117, 118, 119, 120, 121, 122, 48, 49, 50, 51, 52, 53, 54, 55, 56, 57], c < 1114112 := by decide
  exact key c this
theorem e_isname {x : List Nat} (hx : NameL x) : ev (n + 1) .f_is_name [.str (mkS x)] ro w = .ok (.bl true) w := by
  obtain ⟨h12, hal, c, r, rfl, hc⟩ := hx
  have hl : (mkS (c :: r)).length = r.length + 1 := by rw [← cp_len]; rfl
  have hX : (mkS (c :: r)).length ≤ 16777216 := by
    simp only [List.length_cons] at h12
    omega
  have ln := len_X (ro := ro) (w := w) hX
  have ix : gIx (.str (mkS (c :: r))) (.int 0) ro w = .ok (.str (mkS [c])) w := ix_cp (i := 0) hX rfl
  have nl : gNotIn (.str (mkS [c])) g_LETTERS ro w = .ok (.bl false) w := by
    have : gNotIn (.str (mkS [c])) (.str leS) ro w = .ok (.bl (!leB c)) w := in_le
    rw [hc] at this
    exact this
  have sX : see ro w (.str (mkS (c :: r))) = .str (mkS (c :: r)) := rfl
  have sM : see ro w g_MAX_NAME = g_MAX_NAME := rfl
  have sL : see ro w g_LETTERS = g_LETTERS := rfl
  rw [q_is_name, x_def]
  simp only [List.length_cons, List.length_nil, Nat.zero_add, Nat.reduceAdd, if_true, List.map_cons, List.map_nil, Nat.reduceSub, List.replicate, List.cons_append, List.nil_append, List.append_nil]
  unfold b_is_name
  have t1 : cNotT (cTest (cChain gLe gLe (cK (.int 1)) (cCall (one gLen) (cArgs [cVar 0])) (cK g_MAX_NAME))) [some (.str (mkS (c :: r))), none] ro w = .ok false w := by
    have q1 : gLe (.int 1) (.int (((mkS (c :: r)).length : Nat) : Int)) ro w = .ok (.bl true) w := by
      rw [hl, le_int]
      congr 2
      exact decide_eq_true (by omega)
    have q2 : gLe (.int (((mkS (c :: r)).length : Nat) : Int)) g_MAX_NAME ro w = .ok (.bl true) w := by
      show gLe (.int (((mkS (c :: r)).length : Nat) : Int)) (.int 12) ro w = _
      rw [hl, le_int]
      congr 2
      simp only [List.length_cons] at h12
      exact decide_eq_true (by omega)
    rw [x_notT, x_test, x_chain]
    simp only [x_k, an_ok, x_call, x_args, x_args0, x_var, List.getElem?_cons_zero, ofO_ss, x_one, sX, ln, see_int, q1, sM, q2, bool_bl]
    rfl
  rw [x_seq, x_ifS, x_orT, t1, an_ok, if_neg Bool.false_ne_true]
  have t2 : cTest (cBin gNotIn (cBin gIx (cVar 0) (cK (.int 0))) (cK g_LETTERS)) [some (.str (mkS (c :: r))), none] ro w = .ok false w := by
    simp only [x_test, x_bin, x_var, x_k, List.getElem?_cons_zero, ofO_ss, an_ok, sX, see_int, ix, see_str, sL, nl, bool_bl]
  rw [t2, st_ok, if_neg Bool.false_ne_true, x_nil, oan_nx, x_ret]
  have cm : cComp (.nm 1) [1] (cSigns (cVar 0)) (cTest (cBin gNotIn (cVar 1) (cBin gAdd (cK g_LETTERS) (cK (.str "0123456789"))))) (cVar 1) kStill [some (.str (mkS (c :: r))), none] ro w = .ok (.lst []) w := by
    have it : cSigns (cVar 0) [some (.str (mkS (c :: r))), none] ro w = .ok ((c :: r).map fun c => .str (mkS [c])) w := rfl
    have cf := comp_filt (k := 1) (env := [some (.str (mkS (c :: r))), none]) (ro := ro) (w := w) (ta := cTest (cBin gNotIn (cVar 1) (cBin gAdd (cK g_LETTERS) (cK (.str "0123456789"))))) (fa := cVar 1) (h := fun c : Nat => D.str (mkS [c])) (g := fun c => D.str (mkS [c])) (p := fun _ => false) (l := c :: r)
      (fun a ha => by
        have al := hal a ha
        have ni : gNotIn (.str (mkS [a])) (.str alS) ro w = .ok (.bl (!alB a)) w := rfl
        rw [al] at ni
        simp only [List.set_cons_succ, List.set_cons_zero, x_test, x_bin, x_var, x_k, List.getElem?_cons_zero, List.getElem?_cons_succ, ofO_ss, an_ok, sL, see_str, add_al, ni, bool_bl]
        rfl)
      (fun a _ h => by cases h)
    have sz : ((c :: r).map fun c => D.str (mkS [c])).length ≤ sizeLine := by
      have hs : sizeLine = 16777216 := rfl
      rw [List.length_map]
      omega
    rw [x_comp, it, an_ok, if_pos sz]
    rw [show wipeE [some (.str (mkS (c :: r))), none] [1] = [some (.str (mkS (c :: r))), none] from rfl, cf]
    simp only [an_ok, x_still]
    rw [List.filter_eq_nil_iff.mpr (by simp)]
    rfl
  have eq : gEq (.lst []) (.lst []) ro w = .ok (.bl true) w := by
    rw [eq_eqo (eqo_of rfl rfl (by decide)) (eqo_of rfl rfl (by decide))]
    simp
  rw [x_bin, cm, an_ok, x_lst, x_args0, an_ok, an_ok]
  simp only [see_lst, eq, st_ok, fin_rt]
/-! the loops of the lexer -/
abbrev tE (X : Str) (k at' : Nat) (e3 e4 : Option D) : Fx.Env := [some (.str X), some (.ref k), some (.int (at' : Int)), e3, e4, none]
def condE : Fx.Env → M Bool := cAndT (cTest (cBin gLt (cVar 3) (cCall (one gLen) (cArgs [cVar 0])))) (cTest (cBin gIn (cBin gIx (cVar 0) (cVar 3)) (cBin gAdd (cK g_LETTERS) (cK (.str "0123456789")))))
theorem condE_ok (hX : X.length ≤ 16777216) {k a e : Nat} {e4 : Option D} (he : e ≤ X.length) : condE (tE X k a (some (.int (e : Int))) e4) ro w = .ok (match (cp X).drop e with
    | [] => false
    | c :: _ => alB c) w := by
  have ln := len_X (ro := ro) (w := w) hX
  have sX : see ro w (.str X) = .str X := rfl
  have sL : see ro w g_LETTERS = g_LETTERS := rfl
  have t1 : cTest (cBin gLt (cVar 3) (cCall (one gLen) (cArgs [cVar 0]))) (tE X k a (some (.int (e : Int))) e4) ro w = .ok (decide (e < X.length)) w := by
    simp only [tE, x_test, x_bin, x_var, x_call, x_args, x_args0, x_one, List.getElem?_cons_zero, List.getElem?_cons_succ, ofO_ss, an_ok, sX, ln, see_int, lt_int, bool_bl]
    congr 1
    exact decide_eq_decide.mpr (by omega)
  unfold condE
  rw [x_andT, t1, an_ok]
  cases q : (cp X).drop e with
  | nil =>
    have := congrArg List.length q
    rw [List.length_drop, cp_len] at this
    rw [decide_eq_false (by simp at this; omega), if_neg Bool.false_ne_true]
  | cons c l =>
    have hc : (cp X)[e]? = some c := by
      have := List.getElem?_drop (xs := cp X) (i := e) (j := 0)
      rw [q] at this
      simpa using this.symm
    have := congrArg List.length q
    rw [List.length_drop, cp_len, List.length_cons] at this
    rw [decide_eq_true (by omega), if_pos rfl]
    have ix := ix_cp (ro := ro) (w := w) hX hc
    simp only [tE, x_test, x_bin, x_var, x_k, List.getElem?_cons_zero, List.getElem?_cons_succ, ofO_ss, an_ok, sX, see_int, ix, sL, see_str, add_al, in_al, bool_bl]
theorem end_loop (hX : X.length ≤ 16777216) {k a : Nat} {e4 : Option D} : ∀ (x l : List Nat) (e N : Nat), e ≤ X.length → (cp X).drop e = x ++ l → (∀ c ∈ x, alB c = true) → (∀ c r, l = c :: r → alB c = false) → x.length < N →
    whileL condE (sAug 3 gAddI (cK (.int 1))) N (tE X k a (some (.int (e : Int))) e4) ro w = .go .nx (tE X k a (some (.int ((e + x.length : Nat) : Int))) e4) w
  | x, l, e, 0, _, _, _, _, h => by omega
  | [], l, e, N + 1, he, hd, _, hl, _ => by
    rw [while_succ, condE_ok hX he, hd, st_ok]
    cases l with
    | nil => rfl
    | cons c l =>
      simp only [List.nil_append]
      rw [if_neg (by rw [hl c l rfl]; exact Bool.false_ne_true)]
      rfl
  | c :: x, l, e, N + 1, he, hd, hx, hl, hN => by
    rw [while_succ, condE_ok hX he, hd, st_ok]
    simp only [List.cons_append]
    rw [if_pos (hx c (by simp)), x_augI (x := (e : Int)) (y := 1) rfl rfl, tn_nx]
    have ln := congrArg List.length hd
    rw [List.length_drop, cp_len] at ln
    simp only [List.length_append, List.length_cons] at ln
    have ih := end_loop hX (k := k) (a := a) (e4 := e4) x l (e + 1) N (by omega) (by rw [← List.drop_drop, hd]; rfl) (fun z hz => hx z (by simp [hz])) hl (by simp only [List.length_cons] at hN; omega)
    have ee : (tE X k a (some (.int (e : Int))) e4).set 3 (some (.int ((e : Int) + 1))) = tE X k a (some (.int ((e + 1 : Nat) : Int))) e4 := rfl
    rw [ee, ih]
    simp only [List.length_cons]
    rw [show e + 1 + x.length = e + (x.length + 1) by omega]
end
def condT : Fx.Env → M Bool := cTest (cBin gLt (cVar 2) (cCall (one gLen) (cArgs [cVar 0])))
def sSign : SF := sSeq (sSet 4 (cComp (.nm 5) [5] (cSeq (cK g_SIGNS)) (cTru (cStr gStarts (cVar 0) (cArgs [cVar 5, cVar 2]))) (cVar 5) kStill))
  (sSeq (sIf (cTest (cBin gEq (cCall (one gLen) (cArgs [cVar 4])) (cK (.int 0)))) (sRaise "InvalidText") (sNil))
  (sSet 3 (cBin gAdd (cVar 2) (cCall (one gLen) (cArgs [cBin gIx (cVar 4) (cK (.int 0))])))))
def sName (n : Nat) : SF := sIf (cNotT (cTru (cCall (fun ds => if ds.length = 1 then ev n .f_is_name ds else M.no) (cArgs [cSl (cVar 0) (cPart (cVar 2)) (cPart (cVar 3))])))) (sRaise "InvalidText") (sNil)
def sTail : SF := sSeq (sExpr (cMl gAppend (cVar 1) (cArgs [cSl (cVar 0) (cPart (cVar 2)) (cPart (cVar 3))])))
  (sSet 2 (cVar 3))
def bodyT (n : Nat) : SF := sSeq (sIf (cTest (cBin gEq (cBin gIx (cVar 0) (cVar 2)) (cK (.str " ")))) (sSeq (sAug 2 gAddI (cK (.int 1)))
  (sCnt)) (sNil))
  (sSeq (sSet 3 (cVar 2))
  (sSeq (sWhile 1000000 condE (sAug 3 gAddI (cK (.int 1))))
  (sSeq (sIf (cTest (cBin gGt (cVar 3) (cVar 2))) (sName n) sSign)
  sTail)))
section
variable {n : Nat} {ro w : List D} {X : Str}
theorem eq_sp {c : Nat} (h : c < 1114112) : gEq (.str (mkS [c])) (.str " ") ro w = .ok (.bl (decide (c = 32))) w := by
  rw [eq_str (str_ok (x := mkS [c]) (fun d hd => by
    rw [List.mem_singleton.mp hd]; exact h)) ok_lit]
  congr 2
  refine decide_eq_decide.mpr ⟨fun e => ?_, fun e => ?_⟩
  · have := congrArg cp e
    have e2 : cp " " = [32] := by decide
    rw [e2] at this
    exact (List.cons.inj this).1
  · subst e
    exact cp_inj (by decide)
theorem condT_ok (hX : X.length ≤ 16777216) {k a : Nat} {e3 e4 : Option D} : condT (tE X k a e3 e4) ro w = .ok (decide (a < X.length)) w := by
  have ln := len_X (ro := ro) (w := w) hX
  have sX : see ro w (.str X) = .str X := rfl
  unfold condT
  simp only [tE, x_test, x_bin, x_var, x_call, x_args, x_args0, x_one, List.getElem?_cons_zero, List.getElem?_cons_succ, ofO_ss, an_ok, sX, ln, see_int, lt_int, bool_bl]
  congr 1
  exact decide_eq_decide.mpr (by omega)
theorem drop_at {l : List Nat} {c a : Nat} (h : (cp X).drop a = c :: l) : (cp X)[a]? = some c ∧ a < X.length := by
  have h1 := List.getElem?_drop (xs := cp X) (i := a) (j := 0)
  rw [h] at h1
  have h2 := congrArg List.length h
  rw [List.length_drop, cp_len, List.length_cons] at h2
  exact ⟨by simpa using h1.symm, by omega⟩
theorem tail_tk (hX : X.length ≤ 16777216) {k a b : Nat} {e4 : Option D} {x l : List Nat} {found : List Str} (hd : (cp X).drop a = x ++ l) (hb : b = a + x.length) (hbl : b ≤ X.length) (hw : w[k]? = some (.lst (found.map .str))) (hf : found.length < 10000000) :
    sTail (tE X (ro.length + k) a (some (.int (b : Int))) e4) ro w = .go .nx (tE X (ro.length + k) b (some (.int (b : Int))) e4) (w.set k (.lst ((found ++ [mkS x]).map .str))) := by
  have sX : see ro w (.str X) = .str X := rfl
  have sl := sl_X (ro := ro) (w := w) hX (a := a) hbl
  have e : ((cp X).drop a).take (b - a) = x := by
    rw [hd, hb, Nat.add_sub_cancel_left, List.take_left]
  rw [e] at sl
  have s1 := see_at (ro := ro) hw
  have hs : sizeLine = 16777216 := rfl
  have ap := append_at (ro := ro) (d := .str (mkS x)) hw (by rw [List.length_map]; omega)
  unfold sTail
  have cs : cSl (cVar 0) (cPart (cVar 2)) (cPart (cVar 3)) (tE X (ro.length + k) a (some (.int (b : Int))) e4) ro w = .ok (.str (mkS x)) w := by
    simp only [tE, x_sl, x_part, x_var, List.getElem?_cons_zero, List.getElem?_cons_succ, ofO_ss, an_ok, sX, partV_int, sl]
  have c1 : cVar 1 (tE X (ro.length + k) a (some (.int (b : Int))) e4) ro w = .ok (.ref (ro.length + k)) w := rfl
  rw [x_seq, x_expr, x_ml, c1, an_ok, s1, mlV_lst, x_args, cs, an_ok, x_args0, an_ok, an_ok, ap, st_ok, oan_nx, List.map_append]
  rfl
theorem name_ok (hn : 0 < n) (hX : X.length ≤ 16777216) {k a b : Nat} {e4 : Option D} {x l : List Nat} (hx : NameL x) (hd : (cp X).drop a = x ++ l) (hb : b = a + x.length) (hbl : b ≤ X.length) :
    sName n (tE X k a (some (.int (b : Int))) e4) ro w = .go .nx (tE X k a (some (.int (b : Int))) e4) w := by
  obtain ⟨m, rfl⟩ : ∃ m, n = m + 1 := ⟨n - 1, by omega⟩
  have sX : see ro w (.str X) = .str X := rfl
  have sl := sl_X (ro := ro) (w := w) hX (a := a) hbl
  have e : ((cp X).drop a).take (b - a) = x := by
    rw [hd, hb, Nat.add_sub_cancel_left, List.take_left]
  rw [e] at sl
  have nm := e_isname (n := m) (ro := ro) (w := w) hx
  unfold sName
  rw [x_ifS]
  simp only [tE, x_notT, x_tru, x_call, x_args, x_args0, x_sl, x_part, x_var, List.getElem?_cons_zero, List.getElem?_cons_succ, ofO_ss, an_ok, sX, partV_int, sl, List.length_cons, List.length_nil, Nat.zero_add, if_true, nm, see_bl, truth_bl, Bool.not_true, st_ok, Bool.false_eq_true, if_false, x_nil]
theorem sign_ok (hX : X.length ≤ 16777216) {k a : Nat} {e3 e4 : Option D} {s : Str} {l : List Nat} (hs : s ∈ SG) (hd : (cp X).drop a = cp s ++ l) (ha : a ≤ X.length) :
    sSign (tE X k a e3 e4) ro w = .go .nx (tE X k a (some (.int ((a + (cp s).length : Nat) : Int))) (some (.lst [.str s]))) w := by
  have sX : see ro w (.str X) = .str X := rfl
  have cm : cComp (.nm 5) [5] (cSeq (cK g_SIGNS)) (cTru (cStr gStarts (cVar 0) (cArgs [cVar 5, cVar 2]))) (cVar 5) kStill (tE X k a e3 e4) ro w = .ok (.lst [.str s]) w := by
    have it : cSeq (cK g_SIGNS) (tE X k a e3 e4) ro w = .ok (SG.map .str) w := rfl
    have cf := comp_filt (k := 5) (env := tE X k a e3 e4) (ro := ro) (w := w) (ta := cTru (cStr gStarts (cVar 0) (cArgs [cVar 5, cVar 2]))) (fa := cVar 5) (h := fun t : Str => D.str t) (g := fun t => D.str t) (p := fun t => (cp t).isPrefixOf (cp s ++ l)) (l := SG)
      (fun t ht => by
        have st : ∀ w, gStarts X [.str t, .int (a : Int)] ro w = .ok (.bl ((cp t).isPrefixOf (cp s ++ l))) w := fun w => by
          rw [starts_str, starts_at ha, hd]
        rw [x_tru, x_str (x := X) rfl]
        simp only [tE, List.set_cons_succ, List.set_cons_zero, x_args, x_args0, x_var, List.getElem?_cons_zero, List.getElem?_cons_succ, ofO_ss, an_ok, st, see_bl, truth_bl])
      (fun t _ _ => rfl)
    rw [x_comp, it, an_ok, if_pos (by decide)]
    rw [show wipeE (tE X k a e3 e4) [5] = tE X k a e3 e4 from rfl, cf, fits_one hs l]
    simp only [an_ok, x_still]
    rfl
  have hs2 : s.length ≤ 16777216 := by
    have : ∀ t ∈ SG, t.length ≤ 3 := by decide
    have := this s hs
    omega
  have ln := len_X (ro := ro) (w := w) hs2
  unfold sSign
  rw [x_seq, x_set, cm, st_ok, oan_nx, x_seq, x_ifS]
  have l1 : gLen (.lst [.str s]) ro w = .ok (.int 1) w := rfl
  have i0 : gIx (.lst [.str s]) (.int 0) ro w = .ok (.str s) w := rfl
  have sl : see ro w (.lst [.str s]) = .lst [.str s] := rfl
  simp only [tE, List.set_cons_succ, List.set_cons_zero, x_test, x_bin, x_call, x_args, x_args0, x_var, x_k, x_one, List.getElem?_cons_zero, List.getElem?_cons_succ, ofO_ss, an_ok, sl, l1, see_int, eq_int, bool_bl]
  rw [decide_eq_false (by decide), st_ok, if_neg Bool.false_ne_true, x_nil, oan_nx, x_set]
  simp only [x_bin, x_call, x_args, x_args0, x_var, x_k, x_one, List.getElem?_cons_zero, List.getElem?_cons_succ, ofO_ss, an_ok, sl, see_int, i0, see_str, ln, add_int, st_ok, List.set_cons_succ, List.set_cons_zero]
  rw [cp_len]
  rfl
theorem lex_loop (hn : 0 < n) (hX : X.length ≤ 900000) (hc : ∀ c ∈ cp X, c < 1114112) {k : Nat} {l : List Nat} {ws : List Str} (h : Lx l ws) : ∀ (a N : Nat) (e3 e4 : Option D) (found : List Str) (w : List D), a ≤ X.length → (cp X).drop a = l → l.length < N → w[k]? = some (.lst (found.map .str)) → found.length + l.length < 10000000 →
    ∃ e3' e4', whileL condT (bodyT n) N (tE X (ro.length + k) a e3 e4) ro w = .go .nx (tE X (ro.length + k) X.length e3' e4') (w.set k (.lst ((found ++ ws).map .str))) := by
  have hX' : X.length ≤ 16777216 := by omega
  induction h with
  | nil =>
    intro a N e3 e4 found w ha hd hN hw hf
    have ln := congrArg List.length hd
    rw [List.length_drop, cp_len, List.length_nil] at ln
    have ea : a = X.length := by omega
    obtain ⟨M, rfl⟩ : ∃ M, N = M + 1 := ⟨N - 1, by omega⟩
    refine ⟨e3, e4, ?_⟩
    rw [while_succ, condT_ok hX', decide_eq_false (by omega), st_ok, if_neg Bool.false_ne_true, List.append_nil, set_same hw, ea]
  | sp h ih =>
    rename_i l ws
    intro a N e3 e4 found w ha hd hN hw hf
    obtain ⟨M, rfl⟩ : ∃ M, N = M + 1 := ⟨N - 1, by omega⟩
    obtain ⟨ix, lt⟩ := drop_at hd
    have ixc := ix_cp (ro := ro) (w := w) hX' ix
    have sX : see ro w (.str X) = .str X := rfl
    obtain ⟨e3', e4', r⟩ := ih (a + 1) M e3 e4 found w (by omega) (by rw [← List.drop_drop, hd]; rfl) (by simp only [List.length_cons] at hN; omega) hw (by simp only [List.length_cons] at hf; omega)
    refine ⟨e3', e4', ?_⟩
    rw [while_succ, condT_ok hX', decide_eq_true lt, st_ok, if_pos rfl]
    have b1 : bodyT n (tE X (ro.length + k) a e3 e4) ro w = .go .ct (tE X (ro.length + k) (a + 1) e3 e4) w := by
      unfold bodyT
      have t : cTest (cBin gEq (cBin gIx (cVar 0) (cVar 2)) (cK (.str " "))) (tE X (ro.length + k) a e3 e4) ro w = .ok true w := by
        simp only [tE, x_test, x_bin, x_var, x_k, List.getElem?_cons_zero, List.getElem?_cons_succ, ofO_ss, an_ok, sX, see_int, ixc, see_str, eq_sp (show 32 < 1114112 by decide), bool_bl]
        rfl
      rw [x_seq, x_ifS, t, st_ok, if_pos rfl, x_seq, x_augI (x := (a : Int)) (y := 1) rfl rfl]
      rfl
    rw [b1, tn_ct, r]
  | nm hx hl h ih =>
    rename_i x l ws
    intro a N e3 e4 found w ha hd hN hw hf
    obtain ⟨M, rfl⟩ : ∃ M, N = M + 1 := ⟨N - 1, by omega⟩
    obtain ⟨h12, hal, c, r, ex, hle⟩ := id hx
    have hd' : (cp X).drop a = c :: (r ++ l) := by rw [hd, ex]; rfl
    obtain ⟨ix, lt⟩ := drop_at hd'
    have ixc := ix_cp (ro := ro) (w := w) hX' ix
    have sX : see ro w (.str X) = .str X := rfl
    have ln := congrArg List.length hd
    rw [List.length_drop, cp_len, List.length_append] at ln
    have xl : 1 ≤ x.length := by rw [ex]; simp
    have c32 : c ≠ 32 := fun e => by
      have := le_al hle
      rw [e, al_32] at this
      cases this
    have hb : a + x.length ≤ X.length := by omega
    obtain ⟨e3', e4', q⟩ := ih (a + x.length) M (some (.int ((a + x.length : Nat) : Int))) e4 (found ++ [mkS x]) (w.set k (.lst ((found ++ [mkS x]).map .str))) hb (by rw [← List.drop_drop, hd, List.drop_left]) (by rw [List.length_append] at hN; omega) (List.getElem?_set_self (len_at hw)) (by rw [List.length_append, List.length_singleton]; rw [List.length_append] at hf; omega)
    refine ⟨e3', e4', ?_⟩
    rw [while_succ, condT_ok hX', decide_eq_true lt, st_ok, if_pos rfl]
    have b1 : bodyT n (tE X (ro.length + k) a e3 e4) ro w = .go .nx (tE X (ro.length + k) (a + x.length) (some (.int ((a + x.length : Nat) : Int))) e4) (w.set k (.lst ((found ++ [mkS x]).map .str))) := by
      unfold bodyT
      have t : cTest (cBin gEq (cBin gIx (cVar 0) (cVar 2)) (cK (.str " "))) (tE X (ro.length + k) a e3 e4) ro w = .ok false w := by
        simp only [tE, x_test, x_bin, x_var, x_k, List.getElem?_cons_zero, List.getElem?_cons_succ, ofO_ss, an_ok, sX, see_int, ixc, see_str, eq_sp (hc c (List.mem_of_getElem? ix)), bool_bl, decide_eq_false c32]
      have el := end_loop (ro := ro) (w := w) hX' (k := ro.length + k) (a := a) (e4 := e4) x l a 1000000 ha hd hal hl (by omega)
      have t2 : cTest (cBin gGt (cVar 3) (cVar 2)) (tE X (ro.length + k) a (some (.int ((a + x.length : Nat) : Int))) e4) ro w = .ok true w := by
        simp only [tE, x_test, x_bin, x_var, List.getElem?_cons_zero, List.getElem?_cons_succ, ofO_ss, an_ok, see_int, gt_int, bool_bl]
        congr 1
        exact decide_eq_true (by omega)
      rw [x_seq, x_ifS, t, st_ok, if_neg Bool.false_ne_true, x_nil, oan_nx, x_seq, x_set]
      have c2 : cVar 2 (tE X (ro.length + k) a e3 e4) ro w = .ok (.int (a : Int)) w := rfl
      rw [c2, st_ok, oan_nx]
      have ee : (tE X (ro.length + k) a e3 e4).set 3 (some (.int (a : Int))) = tE X (ro.length + k) a (some (.int (a : Int))) e4 := rfl
      rw [ee, x_seq]
      unfold sWhile
      rw [el, oan_nx, x_seq, x_ifS, t2, st_ok, if_pos rfl, name_ok hn hX' hx hd rfl hb, oan_nx, tail_tk hX' hd rfl hb hw (by omega)]
    rw [b1, tn_nx, q, List.set_set, List.append_assoc]
    rfl
  | sg hs h ih =>
    rename_i s l ws
    intro a N e3 e4 found w ha hd hN hw hf
    obtain ⟨M, rfl⟩ : ∃ M, N = M + 1 := ⟨N - 1, by omega⟩
    obtain ⟨c, r, ex, c32, cal⟩ := sg_head hs
    have hd' : (cp X).drop a = c :: (r ++ l) := by rw [hd, ex]; rfl
    obtain ⟨ix, lt⟩ := drop_at hd'
    have ixc := ix_cp (ro := ro) (w := w) hX' ix
    have sX : see ro w (.str X) = .str X := rfl
    have ln := congrArg List.length hd
    rw [List.length_drop, cp_len, List.length_append] at ln
    have xl : 1 ≤ (cp s).length := by rw [ex]; simp
    have hb : a + (cp s).length ≤ X.length := by omega
    obtain ⟨e3', e4', q⟩ := ih (a + (cp s).length) M (some (.int ((a + (cp s).length : Nat) : Int))) (some (.lst [.str s])) (found ++ [s]) (w.set k (.lst ((found ++ [s]).map .str))) hb (by rw [← List.drop_drop, hd, List.drop_left]) (by rw [List.length_append] at hN; omega) (List.getElem?_set_self (len_at hw)) (by rw [List.length_append, List.length_singleton]; rw [List.length_append] at hf; omega)
    refine ⟨e3', e4', ?_⟩
    rw [while_succ, condT_ok hX', decide_eq_true lt, st_ok, if_pos rfl]
    have b1 : bodyT n (tE X (ro.length + k) a e3 e4) ro w = .go .nx (tE X (ro.length + k) (a + (cp s).length) (some (.int ((a + (cp s).length : Nat) : Int))) (some (.lst [.str s]))) (w.set k (.lst ((found ++ [s]).map .str))) := by
      unfold bodyT
      have t : cTest (cBin gEq (cBin gIx (cVar 0) (cVar 2)) (cK (.str " "))) (tE X (ro.length + k) a e3 e4) ro w = .ok false w := by
        simp only [tE, x_test, x_bin, x_var, x_k, List.getElem?_cons_zero, List.getElem?_cons_succ, ofO_ss, an_ok, sX, see_int, ixc, see_str, eq_sp (hc c (List.mem_of_getElem? ix)), bool_bl, decide_eq_false c32]
      have el := end_loop (ro := ro) (w := w) hX' (k := ro.length + k) (a := a) (e4 := e4) [] (cp s ++ l) a 1000000 ha hd (by simp) (fun c' r' e => by
        rw [ex] at e
        rw [← (List.cons.inj e).1]
        exact cal) (by simp)
      have t2 : cTest (cBin gGt (cVar 3) (cVar 2)) (tE X (ro.length + k) a (some (.int ((a + ([] : List Nat).length : Nat) : Int))) e4) ro w = .ok false w := by
        simp only [tE, x_test, x_bin, x_var, List.getElem?_cons_zero, List.getElem?_cons_succ, ofO_ss, an_ok, see_int, gt_int, bool_bl]
        congr 1
        exact decide_eq_false (by simp)
      rw [x_seq, x_ifS, t, st_ok, if_neg Bool.false_ne_true, x_nil, oan_nx, x_seq, x_set]
      have c2 : cVar 2 (tE X (ro.length + k) a e3 e4) ro w = .ok (.int (a : Int)) w := rfl
      rw [c2, st_ok, oan_nx]
      have ee : (tE X (ro.length + k) a e3 e4).set 3 (some (.int (a : Int))) = tE X (ro.length + k) a (some (.int (a : Int))) e4 := rfl
      rw [ee, x_seq]
      unfold sWhile
      have tt := tail_tk (ro := ro) hX' (e4 := some (.lst [.str s])) hd rfl hb hw (by omega)
      rw [mk_cp] at tt
      rw [el, oan_nx, x_seq, x_ifS, t2, st_ok, if_neg Bool.false_ne_true, sign_ok hX' hs hd ha, oan_nx, tt]
    rw [b1, tn_nx, q, List.set_set, List.append_assoc]
    rfl
theorem e_tokens (hn : 1 < n) (hX : X.length ≤ 900000) (hc : ∀ c ∈ cp X, c < 1114112) {ws : List Str} (h : Lx (cp X) ws) : ev n .f_tokens_of [.str X] ro w = .ok (.lst (ws.map .str)) w := by
  obtain ⟨m, rfl⟩ : ∃ m, n = m + 1 := ⟨n - 1, by omega⟩
  obtain ⟨e3, e4, lp⟩ := lex_loop (n := m) (ro := ro ++ w) (by omega) hX hc (k := 0) h 0 1000000 none none [] [.lst []] (by omega) rfl (by rw [cp_len]; omega) rfl (by rw [cp_len]; simp; omega)
  have run : runDef 1 6 (b_tokens_of (ev m)) [.str X] (ro ++ w) [] = .ok (.ref ((ro ++ w).length + 0)) [.lst (ws.map .str)] := by
    rw [x_def]
    simp only [List.length_cons, List.length_nil, Nat.zero_add, Nat.reduceAdd, if_true, List.map_cons, List.map_nil, Nat.reduceSub, List.replicate, List.cons_append, List.nil_append, List.append_nil]
    unfold b_tokens_of
    rw [x_seq, x_set, x_lstM, x_args0]
    simp only [an_ok, st_ok, oan_nx, List.set_cons_succ, List.set_cons_zero, List.length_nil, List.nil_append]
    rw [x_seq, x_set, x_k, st_ok, oan_nx]
    simp only [List.set_cons_succ, List.set_cons_zero]
    unfold bodyT condT condE sName sSign sTail at lp
    have lp' := lp
    simp only [tE] at lp'
    rw [x_seq]
    unfold sWhile
    unfold sWhile at lp'
    refine (congrArg (fun o : OS => (OS.an o _).fin = _) lp').mpr ?_
    rw [oan_nx, x_ret]
    rfl
  rw [q_tokens_of]
  unfold pureD
  simp only [run]
  have u0 : told (ro ++ w).length [.lst (ws.map .str)] 4 ((ro ++ w).length + 0) = some (.lst (ws.map .str)) := (told_at (b := (ro ++ w).length) (k := 3) (m := 0) (w := [.lst (ws.map .str)]) rfl).trans (tell_self _ (unders_iff.mpr fun d hd => by obtain ⟨i, _, rfl⟩ := List.mem_map.mp hd; rfl))
  simp only [D.tell, u0]
end
section
variable {n : Nat} {ro w : List D} {X : Str} {T : D}
theorem fold_ok (hn : 73 < n) : ∀ (ts : List Tk) (fs : List Fr) (b : Bool) (as : List (Nat × Nat)) (w : List D) (c : Nat) (e3 : Option D), (∀ t ∈ ts, TkOk t) → RS ro.length w as fs c → c + ts.length < 40000 → match run ts (fs, b) with
    | .ok s => ∃ w' as' e3', forL (.nm 3) (stepB n) (ts.map fun t => .str t.s) (pE T ro.length b e3) ro w = .go .nx (pE T ro.length s.2 e3') w' ∧ RS ro.length w' as' s.1 (c + ts.length)
    | .bad => ∃ e' w', forL (.nm 3) (stepB n) (ts.map fun t => .str t.s) (pE T ro.length b e3) ro w = .exn "InvalidText" [] [] e' w'
    | .no => True
  | [], fs, b, as, w, c, e3, _, h, _ => ⟨w, as, e3, rfl, h⟩
  | t :: ts, fs, b, as, w, c, e3, ht, h, hc => by
    simp only [List.length_cons] at hc
    have so := step_ok (T := T) (b := b) hn (ht t (by simp)) h (by omega)
    have e : forL (.nm 3) (stepB n) ((t :: ts).map fun t => .str t.s) (pE T ro.length b e3) ro w = (stepB n (pE T ro.length b (some (.str t.s))) ro w).turn fun env2 w2 => forL (.nm 3) (stepB n) (ts.map fun t => .str t.s) env2 ro w2 := by
      rw [List.map_cons, for_nm]
      rfl
    show match (step (fs, b) t).bind (run ts) with
      | .ok s => _
      | .bad => _
      | .no => True
    rw [e]
    cases q : step (fs, b) t with
    | ok s =>
      rw [q] at so
      obtain ⟨w', as', s1, s2⟩ := so
      have ih := fold_ok hn ts s.1 s.2 as' w' (c + 1) (some (.str t.s)) (fun t h => ht t (by simp [h])) s2 (by omega)
      rw [s1, tn_nx, Rs.bind_ok]
      have e2 : c + 1 + ts.length = c + (t :: ts).length := by simp only [List.length_cons]; omega
      rw [e2] at ih
      exact ih
    | bad =>
      rw [q] at so
      obtain ⟨e', w', s1⟩ := so
      exact ⟨e', w', by rw [s1]; rfl⟩
    | no => trivial
theorem e_reader (hn : 1 < n) : ∃ w', ev n .f_Reader [] ro [] = .ok (.ref (ro.length + 0)) w' ∧ RS ro.length w' [(1, 2)] [([], [])] 0 := by
  obtain ⟨k, rfl⟩ : ∃ k, n = k + 2 := ⟨n - 2, by omega⟩
  refine ⟨[.ins "Reader" ["frames"] [.ref (ro.length + 3)], .lst [], .lst [], .lst [frD ro.length (1, 2)]], ?_, ⟨rfl, rfl, ⟨rfl, rfl, trivial⟩, by decide, by decide, fun i hi => by
    simp [flat] at hi
    rcases hi with rfl | rfl <;> simp, by simp, by simp, by simp⟩⟩
  rw [q_Reader]
  unfold mkD
  have s0 : see ro [D.ins "Reader" [] [], .lst [], .lst [], .lst [frD ro.length (1, 2)]] (.ref (ro.length + 0)) = .ins "Reader" [] [] := see_at rfl
  have e : ev (k + 1) .f_Reader_init [.ref (ro.length + 0)] ro [.ins "Reader" [] []] = .ok .non [.ins "Reader" ["frames"] [.ref (ro.length + 3)], .lst [], .lst [], .lst [frD ro.length (1, 2)]] := by
    rw [q_Reader_init, x_def]
    simp only [List.length_cons, List.length_nil, Nat.zero_add, Nat.reduceAdd, if_true, List.map_cons, List.map_nil, Nat.reduceSub, List.replicate, List.cons_append, List.nil_append, List.append_nil, Nat.sub_self]
    unfold b_Reader_init
    rw [x_setF]
    simp only [x_lstM, x_tup, x_args, x_args0, an_ok, List.length_cons, List.length_nil, Nat.zero_add, Nat.reduceAdd, List.cons_append, List.nil_append, x_var, List.getElem?_cons_zero, ofO_ss, st_ok]
    have sf := setF_at (ro := ro) (w := [D.ins "Reader" [] [], .lst [], .lst [], .lst [.tup [.ref (ro.length + 1), .ref (ro.length + 2)]]]) (c := "Reader") (f := "frames") (v := .ref (ro.length + 3)) (n := ro.length + 0) (ns := []) (xs := []) (by omega) (by rw [Nat.add_sub_cancel_left]; rfl) (by decide)
    rw [sf, Nat.add_sub_cancel_left]
    rfl
  simp only [List.length_nil, List.nil_append]
  rw [e]
theorem e_parse (hn : 75 < n) (hX : X.length ≤ 30000) (hc : ∀ c ∈ cp X, c < 1114112) {ts : List Tk} (hl : ts.length ≤ 30000) (h : Lx (cp X) (ts.map Tk.s)) (ht : ∀ t ∈ ts, TkOk t) : match prs ts with
    | .ok a => ev n .f_parse [.str X] ro w = .ok a.toD w
    | .bad => ev n .f_parse [.str X] ro w = .exn "InvalidText" [] [] w
    | .no => True := by
  obtain ⟨m, rfl⟩ : ∃ m, n = m + 1 := ⟨n - 1, by omega⟩
  generalize hR : ro ++ w = R
  obtain ⟨w1, r1, rs1⟩ := e_reader (n := m) (ro := R) (by omega)
  have tk := e_tokens (n := m) (ro := R) (w := w1) (by omega) (by omega) hc h
  have lp := fold_ok (n := m) (ro := R) (T := .str X) (by omega) ts [([], [])] true [(1, 2)] w1 0 none ht rs1 (by omega)
  have fin : ∀ (A : Out D), (match prs ts with
      | .ok a => ∃ w', runDef 1 4 (b_parse (ev m)) [.str X] R [] = .ok a.toD w'
      | .bad => ∃ w', runDef 1 4 (b_parse (ev m)) [.str X] R [] = .exn "InvalidText" [] [] w'
      | .no => True) := fun _ => by
    have start : runDef 1 4 (b_parse (ev m)) [.str X] R [] = ((forL (.nm 3) (stepB m) (ts.map fun t => .str t.s) (pE (.str X) R.length true none) R w1).an fun env' w' => sSeq (sIf (cOrT (cTru (cVar 2)) (cTest (cBin gGt (cCall (one gLen) (cArgs [cFld "Reader" "frames" (cVar 1)])) (cK (.int 1))))) (sRaise "InvalidText") (sNil))
        (sRet (cMeth "Reader" "close" (fun ds => if ds.length = 1 then ev m .f_Reader_close ds else M.no) (cVar 1) (cArgs []))) env' R w').fin := by
      rw [x_def]
      simp only [List.length_cons, List.length_nil, Nat.zero_add, Nat.reduceAdd, if_true, List.map_cons, List.map_nil, Nat.reduceSub, List.replicate, List.cons_append, List.nil_append, List.append_nil]
      unfold b_parse
      rw [x_seq, x_set, x_call0, r1, st_ok, oan_nx]
      simp only [List.set_cons_succ, List.set_cons_zero]
      rw [x_seq, x_set, x_k, st_ok, oan_nx]
      simp only [List.set_cons_succ, List.set_cons_zero]
      have it : cSeq (cCall (fun ds => if ds.length = 1 then ev m .f_tokens_of ds else M.no) (cArgs [cVar 0])) [some (.str X), some (.ref (R.length + 0)), some (.bl true), none] R w1 = .ok (ts.map fun t => .str t.s) w1 := by
        rw [x_seqI]
        simp only [x_call, x_args, x_args0, x_var, List.getElem?_cons_zero, ofO_ss, an_ok, List.length_cons, List.length_nil, Nat.zero_add, if_true, tk, List.map_map]
        rfl
      rw [x_seq, x_for, it, st_ok]
      rfl
    rw [start]
    unfold prs
    cases q : run ts ([([], [])], true) with
    | ok s =>
      rw [q] at lp
      obtain ⟨w', as', e3', l1, l2⟩ := lp
      rw [l1, oan_nx]
      obtain ⟨fs, b⟩ := s
      have fl := frs_len (ro := R) l2 (env := pE (.str X) R.length b e3') rfl
      have cd : cOrT (cTru (cVar 2)) (cTest (cBin gGt (cCall (one gLen) (cArgs [cFld "Reader" "frames" (cVar 1)])) (cK (.int 1)))) (pE (.str X) R.length b e3') R w' = .ok (b || decide (1 < fs.length)) w' := by
        have v2 : cTru (cVar 2) (pE (.str X) R.length b e3') R w' = .ok b w' := rfl
        rw [x_orT, v2, an_ok]
        cases b with
        | true => rfl
        | false =>
          rw [if_neg Bool.false_ne_true, x_test, x_bin, fl]
          simp only [an_ok, x_k, see_int, gt_int, bool_bl, Bool.false_or]
          congr 1
          exact decide_eq_decide.mpr (by omega)
      rw [x_seq, x_ifS, cd, st_ok]
      simp only [Rs.bind_ok]
      match fs, b, l2 with
      | [], _, _ => trivial
      | f :: g :: fs, b, _ =>
        cases b <;> exact ⟨w', rfl⟩
      | [f], true, _ => exact ⟨w', rfl⟩
      | [f], false, l2 =>
        have ll := rep2_len l2.ok
        match as', l2, ll with
        | [], _, ll => simp at ll
        | p :: as, l2, _ =>
          obtain ⟨o, g⟩ := f
          have ec := e_close (n := m - 1) (ro := R) (w := w') (by omega) l2 (by omega)
          rw [show m - 1 + 1 = m by omega] at ec
          have mc : ∀ g0 : List D → M D, cMeth "Reader" "close" g0 (cVar 1) (cArgs []) (pE (.str X) R.length false e3') R w' = g0 [.ref (R.length + 0)] R w' := fun g0 => by
            rw [x_meth (o := .ref (R.length + 0)) (w1 := w') rfl l2.see0 (by decide)]
            rfl
          simp only [List.length_cons, List.length_nil, Nat.zero_add, Nat.lt_irrefl, decide_false, Bool.or_false, Bool.false_eq_true, if_false, x_nil, oan_nx]
          rw [x_ret, mc]
          simp only [List.length_cons, List.length_nil, Nat.zero_add, if_true]
          cases q2 : clos (o, g) with
          | ok a =>
            rw [q2] at ec
            obtain ⟨w2, c1, _, _⟩ := ec
            exact ⟨w2, by rw [c1]; rfl⟩
          | bad =>
            rw [q2] at ec
            obtain ⟨w2, c1⟩ := ec
            exact ⟨w2, by rw [c1]; rfl⟩
          | no => trivial
    | bad =>
      rw [q] at lp
      obtain ⟨e', w', l1⟩ := lp
      exact ⟨w', by rw [l1]; rfl⟩
    | no => trivial
  have fin := fin .no
  rw [q_parse]
  unfold pureD
  rw [hR]
  cases q : prs ts with
  | ok a =>
    rw [q] at fin
    obtain ⟨w', f1⟩ := fin
    simp only [f1, tell_self _ (fm_under a)]
  | bad =>
    rw [q] at fin
    obtain ⟨w', f1⟩ := fin
    simp only [f1]
    rfl
  | no => trivial
end
structure Sh (φ : Fm) : Prop where
  ht : φ.ht ≤ 12
  ov : φ.Over SOk
  ln : φ.Over (fun x => x.length ≤ 12)
theorem Sh.sub {φ ψ : Fm} (h : Sh φ) (hs : ψ.ht + 1 ≤ φ.ht) (o1 : ∀ P : Str → Prop, φ.Over P → ψ.Over P) : Sh ψ := ⟨by have := h.ht; omega, o1 _ h.ov, o1 _ h.ln⟩
section
variable {n : Nat} {ro w : List D}
theorem ix0 {φ : Fm} : gIx φ.toD (.int 0) ro w = .ok (.str φ.tag) w := by cases φ <;> rfl
end
theorem gr_down {d : Nat} {a : Fm} {ws : List Tk} {j : Nat} (hj : 1 ≤ j) : ∀ (i : Nat), Gr (j + i) d a ws → Gr j d a ws
  | 0, h => h
  | i + 1, h => gr_down hj i (.up (by omega) h)
theorem gr_to {d : Nat} {a : Fm} {ws : List Tk} {j k : Nat} (hj : 1 ≤ j) (hk : j ≤ k) (h : Gr k d a ws) : Gr j d a ws := gr_down hj (k - j) (by rw [show j + (k - j) = k by omega]; exact h)
abbrev NmL (x : Str) : Prop := NameL (cp x)
def Na (l : List Nat) : Prop := ∀ c r, l = c :: r → alB c = false
theorem na_sp (l : List Nat) : Na (32 :: l) := fun c r e => by
  rw [← (List.cons.inj e).1]
  exact al_32
theorem lx_len {l : List Nat} {ws : List Str} (h : Lx l ws) : ws.length ≤ l.length := by
  induction h with
  | nil => exact Nat.le_refl _
  | sp h ih => simp only [List.length_cons]; omega
  | nm hx hl h ih =>
    obtain ⟨_, _, c, r, e, _⟩ := hx
    rw [e]
    simp only [List.length_cons, List.length_append]
    omega
  | sg hs h ih =>
    obtain ⟨c, r, e, _⟩ := sg_head hs
    rw [e]
    simp only [List.length_cons, List.length_append]
    omega
theorem name_tk {x : Str} (h : NmL x) : NmOk x := by
  obtain ⟨h12, hal, c, r, e, hc⟩ := h
  have ne : ∀ s ∈ SG, x ≠ s := fun s hs ex => by
    obtain ⟨c', r', e', _, al⟩ := sg_head hs
    rw [← ex, e] at e'
    rw [← (List.cons.inj e').1, le_al hc] at al
    cases al
  refine ⟨str_ok fun d hd => al_small (hal d hd), ?_, ?_, ne _ (by decide), ne _ (by decide), ne _ (by decide), ne _ (by decide)⟩
  · unfold tabHas
    rw [List.any_eq_false]
    intro q hq hh
    have eq := of_decide_eq_true hh
    simp only [t_PREFIXES, List.mem_cons, List.not_mem_nil, or_false] at hq
    rcases hq with rfl | rfl | rfl <;> exact ne _ (by decide) eq.symm
  · unfold tabHas
    rw [List.any_eq_false]
    intro q hq hh
    have eq := of_decide_eq_true hh
    simp only [t_BINARY, List.mem_cons, List.not_mem_nil, or_false] at hq
    rcases hq with rfl | rfl | rfl | rfl <;> exact ne _ (by decide) eq.symm
theorem lx_small {l : List Nat} {ws : List Str} (h : Lx l ws) : ∀ c ∈ l, c < 1114112 := by
  induction h with
  | nil => simp
  | sp h ih =>
    intro c hc
    rcases List.mem_cons.mp hc with rfl | hc
    · decide
    · exact ih c hc
  | nm hx hl h ih =>
    intro c hc
    rcases List.mem_append.mp hc with hc | hc
    · exact al_small (hx.2.1 c hc)
    · exact ih c hc
  | sg hs h ih =>
    rename_i s l ws
    intro c hc
    rcases List.mem_append.mp hc with hc | hc
    · have key : ∀ s ∈ SG, ∀ c ∈ cp s, c < 1114112 := by decide
      exact key s hs c hc
    · exact ih c hc
/-! ### towers, plain -/
def appAll (g : List Pre) (a : Fm) : Fm := g.foldl (fun a x => x.app a) a
theorem appAll_ht : ∀ (g : List Pre) (a : Fm), a.ht + g.length ≤ (appAll g a).ht
  | [], a => Nat.le_refl _
  | x :: g, a => by
    have h := appAll_ht g (x.app a)
    have h2 := pre_ht x a
    show a.ht + (g.length + 1) ≤ (appAll g (x.app a)).ht
    omega
theorem opnd_all : ∀ (g : List Pre) (a : Fm), a.ht ≤ 60 → opnd a (g.map .p) = if (appAll g a).ht ≤ 60 then .ok (appAll g a, []) else .bad
  | [], a, h => by
    show Rs.ok (a, []) = if a.ht ≤ 60 then Rs.ok (a, []) else .bad
    rw [if_pos h]
  | x :: g, a, h => by
    show ((chk (x.app a)).bind fun c => opnd c (g.map .p)) = if (appAll g (x.app a)).ht ≤ 60 then .ok (appAll g (x.app a), []) else .bad
    by_cases c : (x.app a).ht ≤ 60
    · rw [chk_ok c, Rs.bind_ok, opnd_all g (x.app a) c]
    · have e : chk (x.app a) = .bad := if_neg c
      have := appAll_ht g (x.app a)
      rw [e, if_neg (by omega)]
      rfl
theorem run_pre : ∀ (ps : List Pre) (o : List Fm) (g : List Sg) (fs : List Fr), run (ps.map .pre) ((o, g) :: fs, true) = if ps = [] ∨ g.length + ps.length ≤ 241 then .ok ((o, ps.reverse.map .p ++ g) :: fs, true) else .bad
  | [], o, g, fs => by simp [run]
  | x :: ps, o, g, fs => by
    show (if 240 < g.length then Rs.bad else Rs.ok ((o, .p x :: g) :: fs, true)).bind (run (ps.map .pre)) = _
    by_cases c : 240 < g.length
    · rw [if_pos c, if_neg (by simp only [List.length_cons]; simp; omega)]
      rfl
    · rw [if_neg c, Rs.bind_ok, run_pre ps o (.p x :: g) fs]
      by_cases c2 : g.length + (x :: ps).length ≤ 241
      · rw [if_pos (.inr (by simp only [List.length_cons] at c2 ⊢; omega)), if_pos (.inr c2), List.reverse_cons, List.map_append, List.append_assoc]
        rfl
      · simp only [List.length_cons] at c2
        rw [if_neg, if_neg]
        · simp only [List.length_cons]; simp; omega
        · rintro (e | e)
          · subst e; simp at c2; omega
          · simp only [List.length_cons] at e; omega
theorem prs_pre (ps : List Pre) (x : Str) : prs (ps.map .pre ++ [.nm x]) = if (appAll ps.reverse (.var x)).ht ≤ 60 then .ok (appAll ps.reverse (.var x)) else .bad := by
  unfold prs
  rw [run_app, run_pre]
  have hl := appAll_ht ps.reverse (.var x)
  rw [List.length_reverse] at hl
  by_cases c : ps = [] ∨ ([] : List Sg).length + ps.length ≤ 241
  · rw [if_pos c, Rs.bind_ok, List.append_nil]
    show ((give (.var x) ([], ps.reverse.map .p) []).bind (run [])).bind _ = _
    unfold give
    simp only
    rw [opnd_all _ _ (show (Fm.var x).ht ≤ 60 by simp only [Fm.ht]; decide)]
    by_cases c2 : (appAll ps.reverse (.var x)).ht ≤ 60
    · rw [if_pos c2, if_pos c2]
      rfl
    · rw [if_neg c2, if_neg c2]
      rfl
  · rw [if_neg c, if_neg]
    · rfl
    · intro h
      simp only [not_or, List.length_nil, Nat.zero_add] at c
      omega
def impN : Nat → Fm → Fm
  | 0, a => a
  | m + 1, a => impN m (.imp (.var "q") a)
theorem impN_ht : ∀ (m : Nat) (a : Fm), (impN m a).ht = a.ht + m
  | 0, a => rfl
  | m + 1, a => by
    have h1 := a.ht_pos
    rw [impN, impN_ht m]
    simp only [Fm.ht]
    omega
def impT (m : Nat) : List Tk := (List.replicate m [Tk.nm "q", .bin .imp]).flatten
theorem run_imp : ∀ (m k : Nat), run (impT m) ([(List.replicate k (.var "q"), List.replicate k (.b .imp))], true) = .ok ([(List.replicate (k + m) (.var "q"), List.replicate (k + m) (.b .imp))], true)
  | 0, k => rfl
  | m + 1, k => by
    have e : impT (m + 1) = .nm "q" :: .bin .imp :: impT m := by
      unfold impT
      rw [List.replicate_succ, List.flatten_cons]
      rfl
    rw [e]
    show ((give (.var "q") (List.replicate k (.var "q"), List.replicate k (.b .imp)) []).bind (run (.bin .imp :: impT m))) = _
    have hg : (List.replicate k (Sg.b .imp)) = [] ∨ ∃ x r, (List.replicate k (Sg.b .imp)) = .b x :: r := by
      cases k with
      | zero => exact .inl rfl
      | succ k => exact .inr ⟨.imp, _, List.replicate_succ⟩
    unfold give
    simp only
    rw [opnd_b hg]
    simp only [Rs.bind_ok]
    show (step ([(.var "q" :: List.replicate k (.var "q"), List.replicate k (.b .imp))], false) (.bin .imp)).bind (run (impT m)) = _
    have st : step ([(.var "q" :: List.replicate k (.var "q"), List.replicate k (.b .imp))], false) (.bin .imp) = .ok ([(List.replicate (k + 1) (.var "q"), List.replicate (k + 1) (.b .imp))], true) := by
      show (if Bi.imp = .iff ∧ Sg.b .iff ∈ List.replicate k (Sg.b .imp) then Rs.bad else (red 3 (.var "q" :: List.replicate k (.var "q")) (List.replicate k (.b .imp))).bind fun c => .ok ([(c.1, .b .imp :: c.2)], true)) = _
      rw [if_neg (fun e => by cases e.1), red_stop]
      · rfl
      · cases k with
        | zero => exact .inl rfl
        | succ k => exact .inr ⟨.imp, _, List.replicate_succ, by decide⟩
    rw [st, Rs.bind_ok, run_imp m (k + 1), show k + 1 + m = k + (m + 1) by omega]
theorem red_imp : ∀ (m : Nat) (a : Fm), a.ht ≤ 60 → red 0 (a :: List.replicate m (.var "q")) (List.replicate m (.b .imp)) = if (impN m a).ht ≤ 60 then .ok ([impN m a], []) else .bad
  | 0, a, h => by
    show Rs.ok ([a], []) = if a.ht ≤ 60 then Rs.ok ([a], []) else .bad
    rw [if_pos h]
  | m + 1, a, h => by
    rw [List.replicate_succ, List.replicate_succ, red, if_pos (Nat.zero_le _)]
    show ((chk (.imp (.var "q") a)).bind fun c => red 0 (c :: List.replicate m (.var "q")) (List.replicate m (.b .imp))) = if (impN m (.imp (.var "q") a)).ht ≤ 60 then _ else _
    by_cases c : (Fm.imp (.var "q") a).ht ≤ 60
    · rw [chk_ok c, Rs.bind_ok, red_imp m _ c]
      rfl
    · have e : chk (.imp (.var "q") a) = .bad := if_neg c
      have := impN_ht m (.imp (.var "q") a)
      rw [e, if_neg (by omega)]
      rfl
theorem prs_imp (m : Nat) : prs (impT m ++ [.nm "p"]) = if (impN m (.var "p")).ht ≤ 60 then .ok (impN m (.var "p")) else .bad := by
  unfold prs
  have r0 := run_imp m 0
  rw [run_app]
  have e0 : run (impT m) ([([], [])], true) = .ok ([(List.replicate m (.var "q"), List.replicate m (.b .imp))], true) := by
    have := r0
    rw [Nat.zero_add] at this
    exact this
  rw [e0, Rs.bind_ok]
  have hg : (List.replicate m (Sg.b .imp)) = [] ∨ ∃ x r, (List.replicate m (Sg.b .imp)) = .b x :: r := by
    cases m with
    | zero => exact .inl rfl
    | succ k => exact .inr ⟨.imp, _, List.replicate_succ⟩
  show ((give (.var "p") (List.replicate m (.var "q"), List.replicate m (.b .imp)) []).bind (run [])).bind _ = _
  unfold give
  simp only
  rw [opnd_b hg]
  simp only [Rs.bind_ok, run]
  unfold clos
  simp only
  rw [red_imp m (.var "p") (by decide)]
  by_cases c : (impN m (.var "p")).ht ≤ 60
  · rw [if_pos c, if_pos c]; rfl
  · rw [if_neg c, if_neg c]; rfl
def lN (x : Bi) : Nat → Fm → Fm
  | 0, a => a
  | m + 1, a => lN x m (x.app a (.var "q"))
theorem lN_ht {x : Bi} (hx : x = .or ∨ x = .and) : ∀ (m : Nat) (a : Fm), (lN x m a).ht = a.ht + m
  | 0, a => rfl
  | m + 1, a => by
    have h1 := a.ht_pos
    rw [lN, lN_ht hx m]
    rcases hx with rfl | rfl
    · simp only [Bi.app, Fm.ht]; omega
    · simp only [Bi.app, Fm.ht]; omega
def lT (x : Bi) (m : Nat) : List Tk := (List.replicate m [.bin x, Tk.nm "q"]).flatten
theorem lT_succ {x : Bi} {m : Nat} : lT x (m + 1) = .bin x :: .nm "q" :: lT x m := by
  unfold lT
  rw [List.replicate_succ, List.flatten_cons]
  rfl
theorem run_l {x : Bi} (hx : x = .or ∨ x = .and) : ∀ (m : Nat) (c : Fm), c.ht ≤ 60 → run (lT x m) ([([.var "q", c], [.b x])], false) = if (lN x m c).ht ≤ 60 then .ok ([([.var "q", lN x m c], [.b x])], false) else .bad
  | 0, c, h => by
    show (Rs.ok ([([.var "q", c], [Sg.b x])], false) : Rs Ps) = if c.ht ≤ 60 then .ok ([([.var "q", c], [Sg.b x])], false) else .bad
    rw [if_pos h]
  | m + 1, c, h => by
    rw [lT_succ]
    have hc : x.cut = x.lev := by rcases hx with rfl | rfl <;> rfl
    have ni : ¬ (x = Bi.iff ∧ Sg.b Bi.iff ∈ [Sg.b x]) := fun e => by
      rcases hx with rfl | rfl
      · cases e.1
      · cases e.1
    show ((if x = .iff ∧ Sg.b .iff ∈ [Sg.b x] then Rs.bad else (red x.cut [.var "q", c] [.b x]).bind fun c => .ok ([(c.1, .b x :: c.2)], true)).bind (run (.nm "q" :: lT x m))) = _
    rw [if_neg ni, red, if_pos (by rw [hc]; exact Nat.le_refl _)]
    show ((((chk (x.app c (.var "q"))).bind fun c => red x.cut [c] []).bind fun c => Rs.ok ([(c.1, Sg.b x :: c.2)], true)).bind (run (.nm "q" :: lT x m))) = if (lN x m (x.app c (.var "q"))).ht ≤ 60 then _ else _
    by_cases c6 : (x.app c (.var "q")).ht ≤ 60
    · rw [chk_ok c6, Rs.bind_ok]
      show run (lT x m) ([([.var "q", x.app c (.var "q")], [.b x])], false) = _
      rw [run_l hx m _ c6]
      rfl
    · have e : chk (x.app c (.var "q")) = .bad := if_neg c6
      have := lN_ht hx m (x.app c (.var "q"))
      rw [e, if_neg (by omega)]
      rfl
theorem prs_l {x : Bi} (hx : x = .or ∨ x = .and) (m : Nat) : prs (.nm "p" :: lT x m) = if (lN x m (.var "p")).ht ≤ 60 then .ok (lN x m (.var "p")) else .bad := by
  unfold prs
  show ((give (.var "p") ([], []) []).bind (run (lT x m))).bind _ = _
  have e0 : give (.var "p") ([], []) [] = .ok ([([.var "p"], [])], false) := rfl
  rw [e0, Rs.bind_ok]
  cases m with
  | zero => rfl
  | succ m =>
    rw [lT_succ]
    have ni : ¬ (x = .iff ∧ Sg.b .iff ∈ ([] : List Sg)) := fun e => by cases e.2
    have e1 : step ([([.var "p"], [])], false) (.bin x) = .ok ([([.var "p"], [.b x])], true) := by
      show (if x = .iff ∧ Sg.b .iff ∈ ([] : List Sg) then Rs.bad else (red x.cut [.var "p"] []).bind fun c => .ok ([(c.1, .b x :: c.2)], true)) = _
      rw [if_neg ni]
      rfl
    show ((step ([([.var "p"], [])], false) (.bin x)).bind (run (.nm "q" :: lT x m))).bind _ = _
    rw [e1, Rs.bind_ok]
    show (run (lT x m) ([([.var "q", .var "p"], [.b x])], false)).bind _ = _
    rw [run_l hx m (.var "p") (by decide)]
    have h1 := lN_ht hx m (.var "p")
    have h2 := lN_ht hx (m + 1) (.var "p")
    have e3 : lN x (m + 1) (.var "p") = x.app (lN x m (.var "p")) (.var "q") := by
      have key : ∀ (k : Nat) (a : Fm), lN x (k + 1) a = x.app (lN x k a) (.var "q") := fun k => by
        induction k with
        | zero => intro a; rfl
        | succ k ih => intro a; rw [lN, ih]; rfl
      exact key m _
    by_cases c : (lN x m (.var "p")).ht ≤ 60
    · rw [if_pos c, Rs.bind_ok]
      show (clos ([.var "q", lN x m (.var "p")], [.b x])) = _
      unfold clos
      rw [red, if_pos (Nat.zero_le _)]
      show ((chk (x.app (lN x m (.var "p")) (.var "q"))).bind fun c => red 0 [c] []).bind _ = _
      rw [← e3]
      by_cases c2 : (lN x (m + 1) (.var "p")).ht ≤ 60
      · rw [chk_ok c2, if_pos c2]; rfl
      · have e : chk (lN x (m + 1) (.var "p")) = .bad := if_neg c2
        rw [e, if_neg c2]; rfl
    · rw [if_neg c, if_neg (by omega)]
      rfl
theorem run_op : ∀ (m : Nat) (fs : List Fr), run (List.replicate m .op) (([], []) :: fs, true) = if m = 0 ∨ fs.length + m ≤ 60 then .ok (List.replicate m (([], []) : Fr) ++ ([], []) :: fs, true) else .bad
  | 0, fs => by simp [run]
  | m + 1, fs => by
    rw [List.replicate_succ]
    show (if 60 < fs.length + 1 then Rs.bad else Rs.ok (([], []) :: ([], []) :: fs, true)).bind (run (List.replicate m .op)) = _
    by_cases c : 60 < fs.length + 1
    · rw [if_pos c, if_neg (by omega)]
      rfl
    · rw [if_neg c, Rs.bind_ok, run_op m (([], []) :: fs)]
      by_cases c2 : fs.length + (m + 1) ≤ 60
      · rw [if_pos (.inr (by simp only [List.length_cons]; omega)), if_pos (.inr c2), List.replicate_succ']
        simp
      · rw [if_neg (by simp only [List.length_cons]; omega), if_neg (by omega)]
theorem gr_br : ∀ m : Nat, Gr 6 m (.var "p") (List.replicate m .op ++ (.nm "p" :: List.replicate m .cl))
  | 0 => .var
  | m + 1 => by
    have h := Gr.br (gr_to (j := 1) (by decide) (by decide) (gr_br m))
    rw [List.append_assoc] at h
    have e : List.replicate (m + 1) Tk.op ++ (.nm "p" :: List.replicate (m + 1) .cl) = .op :: (List.replicate m .op ++ (.nm "p" :: List.replicate m .cl ++ [.cl])) := by
      rw [List.replicate_succ, List.replicate_succ' (n := m) (a := Tk.cl)]
      rfl
    rw [e]
    exact h
theorem prs_br (m : Nat) : prs (List.replicate m .op ++ (.nm "p" :: List.replicate m .cl)) = if m ≤ 60 then .ok (.var "p") else .bad := by
  by_cases c : m ≤ 60
  · rw [if_pos c, gr_prs (gr_to (by decide) (by decide) (gr_br m)) (by decide) c]
  · rw [if_neg c]
    unfold prs
    rw [run_app, run_op, if_neg (by simp; omega)]
    rfl
theorem pqr_nm (x : Str) (h : pqr x) : NmL x := by
  rcases h with rfl | rfl | rfl
  · exact ⟨by decide, by decide, 112, [], by decide, by decide⟩
  · exact ⟨by decide, by decide, 113, [], by decide, by decide⟩
  · exact ⟨by decide, by decide, 114, [], by decide, by decide⟩
theorem joinL_nil : ∀ ps : List (List Nat), TL.joinL [] ps = ps.flatten
  | [] => rfl
  | [p] => by simp [TL.joinL]
  | p :: q :: ps => by
    have ih := joinL_nil (q :: ps)
    simp only [TL.joinL, List.append_nil, List.nil_append, ih, List.flatten_cons]
theorem catB {a b : Str} {w : List D} (h : a.length + b.length ≤ 1000000) : gAdd (.str a) (.str b) [] w = .ok (.str (a ++ b)) w := by
  have hs : sizeLine = 16777216 := rfl
  show (if a.length + b.length ≤ sizeLine then Out.ok (D.str (a ++ b)) w else .no) = _
  rw [if_pos (by omega)]
/-! ### the texts -/
theorem nm_p : NmL "p" := pqr_nm _ (.inl rfl)
theorem nm_q : NmL "q" := pqr_nm _ (.inr (.inl rfl))
theorem lx_p {l : List Nat} {ws : List Str} (h : Lx l ws) (hn : Na l) : Lx (cp "p" ++ l) ("p" :: ws) := by
  have := Lx.nm nm_p hn h
  rw [mk_cp] at this
  exact this
theorem lx_q {l : List Nat} {ws : List Str} (h : Lx l ws) (hn : Na l) : Lx (cp "q" ++ l) ("q" :: ws) := by
  have := Lx.nm nm_q hn h
  rw [mk_cp] at this
  exact this
theorem na_nil : Na [] := fun c r e => by cases e
theorem pre_sg (x : Pre) : x.s ∈ SG := by cases x <;> decide
theorem bi_sg (x : Bi) : x.s ∈ SG := by cases x <;> decide
theorem lx_pre : ∀ ps : List Pre, Lx ((ps.map fun x => cp x.s).flatten ++ cp "p") ((ps.map Tk.pre ++ [Tk.nm "p"]).map Tk.s)
  | [] => by
    have := lx_p .nil na_nil
    rwa [List.append_nil] at this
  | x :: ps => by
    rw [List.map_cons, List.flatten_cons, List.append_assoc]
    exact .sg (pre_sg x) (lx_pre ps)
theorem cp_qi : cp "q -> " = cp "q" ++ (32 :: (cp (Bi.s .imp) ++ [32])) := by decide
theorem lx_imp : ∀ m : Nat, Lx ((List.replicate m (cp "q -> ")).flatten ++ cp "p") ((impT m ++ [Tk.nm "p"]).map Tk.s)
  | 0 => by
    have := lx_p .nil na_nil
    rwa [List.append_nil] at this
  | m + 1 => by
    have e : impT (m + 1) = .nm "q" :: .bin .imp :: impT m := by
      unfold impT
      rw [List.replicate_succ, List.flatten_cons]
      rfl
    have ih := lx_imp m
    rw [e, List.replicate_succ, List.flatten_cons, cp_qi, List.append_assoc, List.append_assoc]
    have h1 : Lx (cp (Bi.s .imp) ++ (32 :: ((List.replicate m (cp "q" ++ (32 :: (cp (Bi.s .imp) ++ [32])))).flatten ++ cp "p"))) (Bi.s .imp :: (impT m ++ [Tk.nm "p"]).map Tk.s) := .sg (bi_sg .imp) (.sp (by rw [← cp_qi]; exact ih))
    have h2 := lx_q (.sp h1) (na_sp _)
    simp only [List.append_assoc, List.cons_append, List.nil_append] at h2 ⊢
    exact h2
def unitL (x : Bi) : List Nat := 32 :: (cp x.s ++ (32 :: cp "q"))
theorem lx_l (x : Bi) : ∀ m : Nat, Lx ((List.replicate m (unitL x)).flatten) ((lT x m).map Tk.s) ∧ Na ((List.replicate m (unitL x)).flatten)
  | 0 => ⟨.nil, na_nil⟩
  | m + 1 => by
    obtain ⟨h1, h2⟩ := lx_l x m
    rw [lT_succ, List.replicate_succ, List.flatten_cons]
    unfold unitL
    have h3 := lx_q h1 h2
    have h4 : Lx (cp x.s ++ (32 :: (cp "q" ++ (List.replicate m (unitL x)).flatten))) (x.s :: "q" :: (lT x m).map Tk.s) := .sg (bi_sg x) (.sp h3)
    refine ⟨?_, ?_⟩
    · have h5 := Lx.sp h4
      unfold unitL at h5
      simpa [Tk.s] using h5
    · exact na_sp _
theorem lx_cl : ∀ m : Nat, Lx (List.replicate m 41) ((List.replicate m Tk.cl).map Tk.s) ∧ Na (List.replicate m 41)
  | 0 => ⟨.nil, na_nil⟩
  | m + 1 => by
    obtain ⟨h1, _⟩ := lx_cl m
    rw [List.replicate_succ, List.replicate_succ]
    refine ⟨?_, fun c r e => ?_⟩
    · have := Lx.sg (s := ")") (by decide) h1
      exact this
    · rw [← (List.cons.inj e).1]
      decide
theorem lx_br (k : Nat) : ∀ m : Nat, Lx (List.replicate m 40 ++ (cp "p" ++ List.replicate k 41)) ((List.replicate m Tk.op ++ (Tk.nm "p" :: List.replicate k Tk.cl)).map Tk.s)
  | 0 => lx_p (lx_cl k).1 (lx_cl k).2
  | m + 1 => by
    rw [List.replicate_succ, List.replicate_succ]
    exact Lx.sg (s := "(") (by decide) (lx_br k m)
/-! ### the law's loops -/
theorem appAll_snoc (g : List Pre) (x : Pre) (a : Fm) : appAll (g ++ [x]) a = x.app (appAll g a) := by
  unfold appAll
  rw [List.foldl_append]
  rfl
def preN : Nat → Pre
  | 0 => .neg
  | 1 => .box
  | _ => .dia
def plus (x : Pre) : Nat := match x with
  | .dia => 3
  | _ => 1
theorem app_ht (x : Pre) (a : Fm) : (x.app a).ht = a.ht + plus x := by
  have := a.ht_pos
  cases x <;> simp only [Pre.app, Fm.ht, plus] <;> omega
section
variable {n : Nat}
theorem not_ok {φ : Fm} {ro w : List D} : ev (n + 1) .f_law_not [φ.toD] ro w = .ok (Fm.imp φ .fal).toD w := by
  rw [q_law_not, x_def]
  rfl
abbrev kE (S : D) (w' : Int) (m : Nat) (a : Fm) (t : Nat) (T : Str) (e7 e8 e9 e10 : Option D) : Fx.Env := [some S, some (.ref 0), some (.int w'), some (.int (m : Nat)), some a.toD, some (.int (t : Nat)), some (.str T), e7, e8, e9, e10]
def eltS (n : Nat) : EF := cBin gIx (cLst (cArgs [cK (.str "~"), cK (.str "[]"), cK (.str "<>")])) (cIf (cTest (cBin gLt (cVar 10) (cK (.int 80)))) (cCall (fun ds => if ds.length = 2 then ev n .f_law_draw ds else M.no) (cArgs [cVar 1, cK (.int 3)])) (cK (.int 0)))
theorem signs_loop (hn : 1 < n) {env : Fx.Env} (h1 : env[1]? = some (some (.ref 0))) (h10 : 10 < env.length) {r : List D} : ∀ (is : List Nat) (P : D), PoolOk P → ∃ (ps : List Pre) (P' : D), PoolOk P' ∧ ps.length = is.length ∧
    compR (.nm 10) cYes (eltS n) env (is.map nD) [] (P :: r) = .ok (ps.map fun x => .str x.s) (P' :: r)
  | [], P, hP => ⟨[], P, hP, rfl, rfl⟩
  | i :: is, P, hP => by
    obtain ⟨v, P1, e1, v0, v1, p1⟩ := e_draw (n := n) hn P r 3 hP (by decide) (by decide)
    obtain ⟨v, rfl⟩ := Int.eq_ofNat_of_zero_le v0
    have g1 : (env.set 10 (some (nD i)))[1]? = some (some (.ref 0)) := by rw [List.getElem?_set_ne (by decide)]; exact h1
    have g10 : (env.set 10 (some (nD i)))[10]? = some (some (nD i)) := List.getElem?_set_self h10
    have sL : ∀ (t : List D) w, see [] w (.lst t) = .lst t := fun _ _ => rfl
    have ixx : ∀ j : Nat, j < 3 → ∀ w, gIx (.lst [.str "~", .str "[]", .str "<>"]) (.int (j : Int)) [] w = .ok (.str (preN j).s) w := fun j hj w => by
      match j, hj with
      | 0, _ => rfl
      | 1, _ => rfl
      | 2, _ => rfl
    have el : ∃ (x : Pre) (P2 : D), PoolOk P2 ∧ eltS n (env.set 10 (some (nD i))) [] (P :: r) = .ok (.str x.s) (P2 :: r) := by
      have d : ∀ w, cTest (cBin gLt (cVar 10) (cK (.int 80))) (env.set 10 (some (nD i))) [] w = .ok (decide (i < 80)) w := fun w => by
        have dd : decide ((i : Int) < 80) = decide (i < 80) := decide_eq_decide.mpr (by omega)
        simp only [x_test, x_bin, x_var, x_k, g10, ofO_ss, an_ok, see_int, lt_int, dd, bool_bl]
      unfold eltS
      by_cases c : i < 80
      · refine ⟨preN v, P1, p1, ?_⟩
        rw [x_bin, x_lst]
        simp only [x_args, x_args0, x_k, an_ok]
        rw [x_if, d, an_ok, decide_eq_true c, if_pos rfl]
        simp only [x_call, x_args, x_args0, x_var, x_k, g1, ofO_ss, an_ok, List.length_cons, List.length_nil, Nat.zero_add, Nat.reduceAdd, if_true, e1, sL, see_int]
        exact ixx v (by omega) _
      · refine ⟨preN 0, P, hP, ?_⟩
        rw [x_bin, x_lst]
        simp only [x_args, x_args0, x_k, an_ok]
        rw [x_if, d, an_ok, decide_eq_false c, if_neg Bool.false_ne_true]
        simp only [x_k, an_ok, sL, see_int]
        exact ixx 0 (by decide) _
    obtain ⟨x, P2, p2, el⟩ := el
    obtain ⟨ps, P3, p3, l3, c3⟩ := signs_loop hn h1 h10 (r := r) is P2 p2
    refine ⟨x :: ps, P3, p3, by rw [List.length_cons, List.length_cons, l3], ?_⟩
    rw [List.map_cons, comp_nm]
    simp only [x_yes, calm_ok', an_ok, if_true, el, List.map_cons, x_pure]
    rw [c3]
    rfl
def sTall (n : Nat) : SF := sSeq (sSet 5 (cBin gAdd (cVar 5) (cIf (cTest (cBin gEq (cVar 8) (cK (.str "<>")))) (cK (.int 3)) (cK (.int 1)))))
  (sIf (cTest (cBin gLe (cVar 5) (cK (.int 60)))) (sSet 4 (cDGet (cDisp [((cK (.str "~")), (cCall (fun ds => if ds.length = 1 then ev n .f_law_not ds else M.no) (cArgs [cVar 4]))), ((cK (.str "[]")), (cTup (cArgs [cK (.str "box"), cVar 4]))), ((cK (.str "<>")), (cCall (fun ds => if ds.length = 1 then ev n .f_law_not ds else M.no) (cArgs [cTup (cArgs [cK (.str "box"), cCall (fun ds => if ds.length = 1 then ev n .f_law_not ds else M.no) (cArgs [cVar 4])])])))]) (cVar 8))) (sNil))
theorem tall_step (hn : 0 < n) {S : D} {w' : Int} {m t : Nat} {a : Fm} {T : Str} {x : Pre} {e7 e9 e10 : Option D} {w : List D} : sTall n (kE S w' m a t T e7 (some (.str x.s)) e9 e10) [] w = .go .nx (kE S w' m (if t + plus x ≤ 60 then x.app a else a) (t + plus x) T e7 (some (.str x.s)) e9 e10) w := by
  obtain ⟨k, rfl⟩ : ∃ k, n = k + 1 := ⟨n - 1, by omega⟩
  have px : PyData.strOk x.s = true := by cases x <;> exact ok_lit
  have ed : decide (x.s = ("<>" : Str)) = decide (x = .dia) := by cases x <;> decide
  have e1 : ∀ w, gEq (.str x.s) (.str "<>") [] w = .ok (.bl (decide (x = .dia))) w := fun w => by rw [eq_str px ok_lit, ed]
  have i1 : cIf (cTest (cBin gEq (cVar 8) (cK (.str "<>")))) (cK (.int 3)) (cK (.int 1)) (kE S w' m a t T e7 (some (.str x.s)) e9 e10) [] w = .ok (.int (plus x : Nat)) w := by
    rw [x_if]
    simp only [kE, x_test, x_bin, x_var, x_k, List.getElem?_cons_zero, List.getElem?_cons_succ, ofO_ss, an_ok, see_str, e1, bool_bl]
    cases x <;> rfl
  unfold sTall
  rw [x_seq, x_set, x_bin]
  have c5 : cVar 5 (kE S w' m a t T e7 (some (.str x.s)) e9 e10) [] w = .ok (.int (t : Nat)) w := rfl
  rw [c5, an_ok, i1, an_ok, see_int, see_int, add_int, st_ok, oan_nx]
  have ee : (kE S w' m a t T e7 (some (.str x.s)) e9 e10).set 5 (some (.int ((t : Int) + (plus x : Nat)))) = kE S w' m a (t + plus x) T e7 (some (.str x.s)) e9 e10 := by
    simp only [kE, List.set_cons_succ, List.set_cons_zero]
    rw [show (t : Int) + (plus x : Nat) = ((t + plus x : Nat) : Int) by omega]
  rw [ee, x_ifS]
  have t2 : cTest (cBin gLe (cVar 5) (cK (.int 60))) (kE S w' m a (t + plus x) T e7 (some (.str x.s)) e9 e10) [] w = .ok (decide (t + plus x ≤ 60)) w := by
    simp only [kE, x_test, x_bin, x_var, x_k, List.getElem?_cons_zero, List.getElem?_cons_succ, ofO_ss, an_ok, see_int, le_int, bool_bl]
    congr 1
    exact decide_eq_decide.mpr (by omega)
  rw [t2, st_ok]
  by_cases c : t + plus x ≤ 60
  · rw [decide_eq_true c, if_pos rfl, if_pos c, x_set]
    have n1 : ∀ w, ev (k + 1) .f_law_not [a.toD] [] w = .ok (Fm.imp a .fal).toD w := fun w => not_ok
    have n2 : ∀ w, ev (k + 1) .f_law_not [.tup [.str "box", (Fm.imp a .fal).toD]] [] w = .ok (Fm.imp (.box (.imp a .fal)) .fal).toD w := fun w => not_ok (φ := .box (.imp a .fal))
    have dp : cDisp [((cK (.str "~")), (cCall (fun ds => if ds.length = 1 then ev (k + 1) .f_law_not ds else M.no) (cArgs [cVar 4]))), ((cK (.str "[]")), (cTup (cArgs [cK (.str "box"), cVar 4]))), ((cK (.str "<>")), (cCall (fun ds => if ds.length = 1 then ev (k + 1) .f_law_not ds else M.no) (cArgs [cTup (cArgs [cK (.str "box"), cCall (fun ds => if ds.length = 1 then ev (k + 1) .f_law_not ds else M.no) (cArgs [cVar 4])])])))] (kE S w' m a (t + plus x) T e7 (some (.str x.s)) e9 e10) [] w = .ok (.dic [.str "~", .str "[]", .str "<>"] [(Fm.imp a .fal).toD, (Fm.box a).toD, (Fm.imp (.box (.imp a .fal)) .fal).toD]) w := by
      show M.bind (cPairs _ _) gDisp [] w = _
      unfold cPairs
      simp only [x_bind, x_k, an_ok, x_call, x_args, x_args0, kE, x_var, List.getElem?_cons_zero, List.getElem?_cons_succ, ofO_ss, List.length_cons, List.length_nil, Nat.zero_add, if_true, n1]
      unfold cPairs
      simp only [x_bind, x_k, an_ok, x_tup, x_args, x_args0, x_var, List.getElem?_cons_zero, List.getElem?_cons_succ, ofO_ss]
      unfold cPairs
      simp only [x_bind, x_k, an_ok, x_call, x_tup, x_args, x_args0, x_var, List.getElem?_cons_zero, List.getElem?_cons_succ, ofO_ss, List.length_cons, List.length_nil, Nat.zero_add, if_true, n1, n2]
      unfold cPairs
      rfl
    have sd : ∀ ks xs w, see [] w (D.dic ks xs) = .dic ks xs := fun _ _ _ => rfl
    have c8 : ∀ w, cVar 8 (kE S w' m a (t + plus x) T e7 (some (.str x.s)) e9 e10) [] w = .ok (.str x.s) w := fun _ => rfl
    rw [x_dget, dp, an_ok, c8, an_ok, sd]
    have g : gDGet (.dic [.str "~", .str "[]", .str "<>"] [(Fm.imp a .fal).toD, (Fm.box a).toD, (Fm.imp (.box (.imp a .fal)) .fal).toD]) (.str x.s) [] w = .ok (x.app a).toD w := by cases x <;> rfl
    rw [g, st_ok]
    rfl
  · rw [decide_eq_false c, if_neg Bool.false_ne_true, if_neg c, x_nil]
theorem tall_loop (hn : 0 < n) {S : D} {w' : Int} {m : Nat} {T : Str} {e7 e9 e10 : Option D} {w : List D} : ∀ (g done : List Pre) (a : Fm) (e8 : Option D), ((appAll done (.var "p")).ht ≤ 60 → a = appAll done (.var "p")) → ∃ (a' : Fm) (e8' : Option D), ((appAll (done ++ g) (.var "p")).ht ≤ 60 → a' = appAll (done ++ g) (.var "p")) ∧
    forL (.nm 8) (sTall n) (g.map fun x => .str x.s) (kE S w' m a (appAll done (.var "p")).ht T e7 e8 e9 e10) [] w = .go .nx (kE S w' m a' (appAll (done ++ g) (.var "p")).ht T e7 e8' e9 e10) w
  | [], done, a, e8, h => ⟨a, e8, by rw [List.append_nil]; exact h, by rw [List.append_nil]; rfl⟩
  | x :: g, done, a, e8, h => by
    have e : appAll (done ++ [x]) (.var "p") = x.app (appAll done (.var "p")) := appAll_snoc _ _ _
    have eh := app_ht x (appAll done (.var "p"))
    obtain ⟨a', e8', h1, h2⟩ := tall_loop hn (S := S) (w' := w') (m := m) (T := T) (e7 := e7) (e9 := e9) (e10 := e10) (w := w) g (done ++ [x]) (if (appAll done (.var "p")).ht + plus x ≤ 60 then x.app a else a) (some (.str x.s)) (fun hh => by
      rw [e] at hh ⊢
      rw [if_pos (by omega), h (by omega)])
    rw [List.append_assoc] at h1 h2
    refine ⟨a', e8', h1, ?_⟩
    rw [List.map_cons, for_nm]
    have st := tall_step (n := n) hn (S := S) (w' := w') (m := m) (t := (appAll done (.var "p")).ht) (a := a) (T := T) (x := x) (e7 := e7) (e9 := e9) (e10 := e10) (w := w)
    have es : (kE S w' m a (appAll done (.var "p")).ht T e7 e8 e9 e10).set 8 (some (.str x.s)) = kE S w' m a (appAll done (.var "p")).ht T e7 (some (.str x.s)) e9 e10 := rfl
    rw [es, st, tn_nx]
    rw [e, eh] at h2
    exact h2
/-- a loop that wraps -/
theorem wrap_loop {S : D} {w' : Int} {m t : Nat} {T : Str} {e7 e8 e9 : Option D} {w : List D} {s : SF} {f : Fm → Fm} (hs : ∀ (a : Fm) (i : Nat), s (kE S w' m a t T e7 e8 e9 (some (nD i))) [] w = .go .nx (kE S w' m (f a) t T e7 e8 e9 (some (nD i))) w) : ∀ (is : List Nat) (a : Fm) (e10 : Option D), ∃ e10', forL (.nm 10) s (is.map nD) (kE S w' m a t T e7 e8 e9 e10) [] w = .go .nx (kE S w' m (is.foldl (fun a _ => f a) a) t T e7 e8 e9 e10') w
  | [], a, e10 => ⟨e10, rfl⟩
  | i :: is, a, e10 => by
    obtain ⟨e10', h⟩ := wrap_loop hs is (f a) (some (nD i))
    refine ⟨e10', ?_⟩
    rw [List.map_cons, for_nm]
    rw [show (kE S w' m a t T e7 e8 e9 e10).set 10 (some (nD i)) = kE S w' m a t T e7 e8 e9 (some (nD i)) from rfl, hs, tn_nx, h]
    rfl
theorem foldl_imp : ∀ (is : List Nat) (a : Fm), is.foldl (fun a _ => Fm.imp (.var "q") a) a = impN is.length a
  | [], a => rfl
  | _ :: is, a => foldl_imp is _
theorem foldl_l (x : Bi) : ∀ (is : List Nat) (a : Fm), is.foldl (fun a _ => x.app a (.var "q")) a = lN x is.length a
  | [], a => rfl
  | _ :: is, a => foldl_l x is _
end
theorem tk_cons {t0 : Tk} {ts : List Tk} (h0 : TkOk t0) (h : ∀ t ∈ ts, TkOk t) : ∀ t ∈ t0 :: ts, TkOk t := fun t ht => by
  rcases List.mem_cons.mp ht with rfl | ht
  · exact h0
  · exact h t ht
theorem tk_app {us ts : List Tk} (h0 : ∀ t ∈ us, TkOk t) (h : ∀ t ∈ ts, TkOk t) : ∀ t ∈ us ++ ts, TkOk t := fun t ht => (List.mem_append.mp ht).elim (h0 t) (h t)
theorem tk_one {t0 : Tk} (h : TkOk t0) : ∀ t ∈ [t0], TkOk t := fun t ht => by
  rw [List.mem_singleton.mp ht]
  exact h
theorem tk_pres (ps : List Pre) : ∀ t ∈ ps.map Tk.pre, TkOk t := fun t ht => by
  obtain ⟨x, _, rfl⟩ := List.mem_map.mp ht
  trivial
theorem tk_rep {t0 : Tk} (h : TkOk t0) (m : Nat) : ∀ t ∈ List.replicate m t0, TkOk t := fun t ht => by
  rw [(List.mem_replicate.mp ht).2]
  exact h
theorem tk_impT : ∀ m : Nat, ∀ t ∈ impT m, TkOk t := fun m t ht => by
  unfold impT at ht
  obtain ⟨l, hl, hm⟩ := List.mem_flatten.mp ht
  rw [(List.mem_replicate.mp hl).2] at hm
  simp only [List.mem_cons, List.not_mem_nil, or_false] at hm
  rcases hm with rfl | rfl
  · exact name_tk nm_q
  · trivial
theorem tk_lT (x : Bi) : ∀ m : Nat, ∀ t ∈ lT x m, TkOk t := fun m t ht => by
  unfold lT at ht
  obtain ⟨l, hl, hm⟩ := List.mem_flatten.mp ht
  rw [(List.mem_replicate.mp hl).2] at hm
  simp only [List.mem_cons, List.not_mem_nil, or_false] at hm
  rcases hm with rfl | rfl
  · trivial
  · exact name_tk nm_q
theorem appAll_over {P : Str → Prop} : ∀ (g : List Pre) (a : Fm), a.Over P → (appAll g a).Over P
  | [], a, h => h
  | x :: g, a, h => appAll_over g (x.app a) (by cases x <;> first | exact ⟨h, trivial⟩ | exact h | exact ⟨⟨h, trivial⟩, trivial⟩)
theorem impN_over {P : Str → Prop} (hq : P "q") : ∀ (m : Nat) (a : Fm), a.Over P → (impN m a).Over P
  | 0, a, h => h
  | m + 1, a, h => impN_over hq m _ ⟨hq, h⟩
theorem lN_over {P : Str → Prop} (hq : P "q") {x : Bi} (hx : x = .or ∨ x = .and) : ∀ (m : Nat) (a : Fm), a.Over P → (lN x m a).Over P
  | 0, a, h => h
  | m + 1, a, h => lN_over hq hx m _ (by rcases hx with rfl | rfl <;> exact ⟨h, hq⟩)
def tail10 : SF := sSeq (sTryM [(subO csL subL "InvalidText", sRet (cBin gGt (cVar 5) (cK (.int 60))))] (sSet 9 (cCall (fun ds => if ds.length = 1 then ev 89 .f_parse ds else M.no) (cArgs [cVar 6]))))
  (sRet (cAnd (cBin gLe (cVar 5) (cK (.int 60))) (cAnd (cCall (fun ds => if ds.length = 2 then ev 89 .f_law_same ds else M.no) (cArgs [cVar 9, cVar 4])) (cCall (fun ds => if ds.length = 2 then ev 89 .f_law_same ds else M.no) (cArgs [cCall (fun ds => if ds.length = 1 then ev 89 .f_height ds else M.no) (cArgs [cVar 9]), cVar 5])))))
theorem tail_ok {S : D} {w' : Int} {m t : Nat} {a : Fm} {T : Str} {e7 e8 e10 : Option D} {w : List D} {ts : List Tk} (lx : Lx (cp T) (ts.map Tk.s)) (tk : ∀ t ∈ ts, TkOk t) (hT : T.length ≤ 30000)
    (h : (prs ts = .ok a ∧ a.ht = t ∧ t ≤ 60 ∧ a.Over SOk) ∨ (prs ts = .bad ∧ 60 < t)) : ∃ w2, (tail10 (kE S w' m a t T e7 e8 none e10) [] w).fin = .ok (.bl true) w2 := by
  have ln := lx_len lx
  rw [List.length_map, cp_len] at ln
  have ps := fun w => e_parse (n := 89) (ro := []) (w := w) (by decide) hT (lx_small lx) (ts := ts) (by omega) lx tk
  have c6 : ∀ w, cCall (fun ds => if ds.length = 1 then ev 89 .f_parse ds else M.no) (cArgs [cVar 6]) (kE S w' m a t T e7 e8 none e10) [] w = ev 89 .f_parse [.str T] [] w := fun w => by
    simp only [kE, x_call, x_args, x_args0, x_var, List.getElem?_cons_zero, List.getElem?_cons_succ, ofO_ss, an_ok, List.length_cons, List.length_nil, Nat.zero_add, if_true]
  refine ⟨w, ?_⟩
  unfold tail10
  rcases h with ⟨hp, ht, h60, ho⟩ | ⟨hp, h60⟩
  · rw [hp] at ps
    have ps' : ∀ w, ev 89 .f_parse [.str T] [] w = .ok a.toD w := ps
    have st : sSet 9 (cCall (fun ds => if ds.length = 1 then ev 89 .f_parse ds else M.no) (cArgs [cVar 6])) (kE S w' m a t T e7 e8 none e10) [] w = .go .nx (kE S w' m a t T e7 e8 (some a.toD) e10) w := by
      rw [x_set, c6, ps', st_ok]
      rfl
    have tr : sTryM [(subO csL subL "InvalidText", sRet (cBin gGt (cVar 5) (cK (.int 60))))] (sSet 9 (cCall (fun ds => if ds.length = 1 then ev 89 .f_parse ds else M.no) (cArgs [cVar 6]))) (kE S w' m a t T e7 e8 none e10) [] w = .go .nx (kE S w' m a t T e7 e8 (some a.toD) e10) w := by
      unfold sTryM
      rw [st]
    have m2 : ∀ w, ev 89 .f_law_same [a.toD, a.toD] [] w = .ok (.bl true) w := fun w => e_same (d := 60) (by decide) a.toD [] w (Fm.smy a ho) (by rw [Fm.dp]; omega)
    have hg : ∀ w, ev 89 .f_height [a.toD] [] w = .ok (.int (t : Nat)) w := fun w => by
      rw [← ht]
      exact e_height (k := 60) (by decide) a [] w (by omega)
    have m3 : ∀ w, ev 89 .f_law_same [.int (t : Nat), .int (t : Nat)] [] w = .ok (.bl true) w := fun w => e_same (d := 60) (by decide) (.int (t : Nat)) [] w rfl (by show 0 ≤ 60; decide)
    rw [x_seq, tr, oan_nx, x_ret, x_and]
    have t1 : cBin gLe (cVar 5) (cK (.int 60)) (kE S w' m a t T e7 e8 (some a.toD) e10) [] w = .ok (.bl true) w := by
      simp only [kE, x_bin, x_var, x_k, List.getElem?_cons_zero, List.getElem?_cons_succ, ofO_ss, an_ok, see_int, le_int]
      congr 2
      exact decide_eq_true (by omega)
    rw [t1, an_ok, andV_bl, if_pos rfl, x_and]
    simp only [kE, x_call, x_args, x_args0, x_var, List.getElem?_cons_zero, List.getElem?_cons_succ, ofO_ss, an_ok, List.length_cons, List.length_nil, Nat.zero_add, Nat.reduceAdd, if_true, m2, andV_bl, hg, m3, st_ok, fin_rt]
  · rw [hp] at ps
    have ps' : ∀ w, ev 89 .f_parse [.str T] [] w = .exn "InvalidText" [] [] w := ps
    have st : sSet 9 (cCall (fun ds => if ds.length = 1 then ev 89 .f_parse ds else M.no) (cArgs [cVar 6])) (kE S w' m a t T e7 e8 none e10) [] w = .exn "InvalidText" [] [] (kE S w' m a t T e7 e8 none e10) w := by
      rw [x_set, c6, ps']
      rfl
    have t1 : sRet (cBin gGt (cVar 5) (cK (.int 60))) (kE S w' m a t T e7 e8 none e10) [] w = .go (.rt (.bl true)) (kE S w' m a t T e7 e8 none e10) w := by
      rw [x_ret]
      simp only [kE, x_bin, x_var, x_k, List.getElem?_cons_zero, List.getElem?_cons_succ, ofO_ss, an_ok, see_int, gt_int, st_ok]
      congr 3
      exact decide_eq_true (by omega)
    have tr : sTryM [(subO csL subL "InvalidText", sRet (cBin gGt (cVar 5) (cK (.int 60))))] (sSet 9 (cCall (fun ds => if ds.length = 1 then ev 89 .f_parse ds else M.no) (cArgs [cVar 6]))) (kE S w' m a t T e7 e8 none e10) [] w = .go (.rt (.bl true)) (kE S w' m a t T e7 e8 none e10) w := by
      unfold sTryM
      rw [st]
      exact t1
    rw [x_seq, tr]
    rfl
theorem min_61 (m : Nat) (hm : 1 ≤ m) (env : Fx.Env) (w : List D) (h3 : env[3]? = some (some (.int (m : Nat)))) : ∃ l : List Nat, l.length = min m 61 - 1 ∧ cRng1 (cArgs [cBin gSub (cCall (gMin2) (cArgs [cVar 3, cK (.int 61)])) (cK (.int 1))]) env [] w = .ok (l.map nD) w := by
  refine ⟨List.range (min m 61 - 1), List.length_range, ?_⟩
  have e : (if (61 : Int) < (m : Nat) then (61 : Int) else (m : Nat)) - 1 = ((min m 61 - 1 : Nat) : Int) := by
    split <;> omega
  rw [x_rng1]
  simp only [x_args, x_args0, x_bin, x_call, x_var, x_k, h3, ofO_ss, an_ok, min_int, see_int, sub_int]
  rw [e, rng1_nat (by omega), rngD_nat]
theorem p_ok : SOk "p" := ok_lit
theorem q_ok : SOk "q" := ok_lit
theorem cp_mul (s : Str) (k : Nat) : cp (Txt.mul s (k : Int)) = (List.replicate k (cp s)).flatten := mul_cps s k
theorem flat_rep (l : List Nat) : ∀ k : Nat, ((List.replicate k l).flatten).length = k * l.length
  | 0 => by simp
  | k + 1 => by
    rw [List.replicate_succ, List.flatten_cons, List.length_append, flat_rep l k, Nat.succ_mul]
    omega
theorem flat_one (c : Nat) : ∀ k : Nat, (List.replicate k [c]).flatten = List.replicate k c
  | 0 => rfl
  | k + 1 => by rw [List.replicate_succ, List.flatten_cons, flat_one c k, List.replicate_succ]; rfl
theorem mulT {s : Str} {k : Nat} {w : List D} (h : s.length ≤ 10) (hk : k ≤ 3000) : gMulS (.str s) (.int (k : Int)) [] w = .ok (.str (Txt.mul s (k : Int))) w := by
  refine mulS_str ⟨by omega, ?_⟩
  have : s.length * k ≤ 10 * 3000 := Nat.mul_le_mul h hk
  simp only [Int.toNat_natCast]
  omega
theorem len_mul {s : Str} {k : Nat} : (Txt.mul s (k : Int)).length = k * s.length := by rw [← cp_len, cp_mul, flat_rep, cp_len]
theorem law_true (ns : List Int) (hns : ns.length ≤ 63) : ∃ w', ev 90 .f_law [.lst (ns.map .int)] [] [] = .ok (.bl true) w' := by
  have hs : sizeLine = 16777216 := rfl
  obtain ⟨P0, p0, e0⟩ := e_pool (n := 89) (by decide) ns
  obtain ⟨v, P1, e1, v0, v1, p1⟩ := e_draw (n := 89) (by decide) P0 [] 5 p0 (by decide) (by decide)
  obtain ⟨u1, P2, e2, u1a, u1b, p2⟩ := e_draw (n := 89) (by decide) P1 [] 70 p1 (by decide) (by decide)
  obtain ⟨u2, P3, e3, u2a, u2b, p3⟩ := e_draw (n := 89) (by decide) P2 [] 2000 p2 (by decide) (by decide)
  obtain ⟨u3, P4, e4, u3a, u3b, p4⟩ := e_draw (n := 89) (by decide) P3 [] 7 p3 (by decide) (by decide)
  obtain ⟨u3, rfl⟩ := Int.eq_ofNat_of_zero_le u3a
  obtain ⟨m, hm1, hm2, ixm⟩ : ∃ m : Nat, 1 ≤ m ∧ m ≤ 3000 ∧ ∀ w, gIx (.lst [.int 59, .int 60, .int 61, .int 58, .int (1 + u1), .int 20, .int (1000 + u2)]) (.int (u3 : Int)) [] w = .ok (.int (m : Nat)) w := by
    obtain ⟨u1, rfl⟩ := Int.eq_ofNat_of_zero_le u1a
    obtain ⟨u2, rfl⟩ := Int.eq_ofNat_of_zero_le u2a
    match u3, u3b with
    | 0, _ => exact ⟨59, by decide, by decide, fun _ => rfl⟩
    | 1, _ => exact ⟨60, by decide, by decide, fun _ => rfl⟩
    | 2, _ => exact ⟨61, by decide, by decide, fun _ => rfl⟩
    | 3, _ => exact ⟨58, by decide, by decide, fun _ => rfl⟩
    | 4, _ => exact ⟨1 + u1, by omega, by omega, fun _ => by rw [Int.natCast_add]; rfl⟩
    | 5, _ => exact ⟨20, by decide, by decide, fun _ => rfl⟩
    | 6, _ => exact ⟨1000 + u2, by omega, by omega, fun _ => by rw [Int.natCast_add]; rfl⟩
    | k + 7, h => exact absurd h (by omega)
  have sL : ∀ (t : List D) w, see [] w (.lst t) = .lst t := fun _ _ => rfl
  have tw : ∀ (j : Int) w (a : Fm) (t : Nat) (T : Str) (e7 e8 e9 e10 : Option D), cTest (cBin gEq (cVar 2) (cK (.int j))) (kE (.lst (ns.map .int)) v m a t T e7 e8 e9 e10) [] w = .ok (decide (v = j)) w := fun j w a t T e7 e8 e9 e10 => by
    simp only [x_and, x_or, x_not, x_andT, x_orT, x_notT, x_tru, x_test, x_bin, x_un, x_tup, x_lst, x_call, x_call0, x_args, x_args0, x_var, x_k, x_one, x_nil, x_if, List.getElem?_cons_zero, List.getElem?_cons_succ, ofO_ss, an_ok, List.length_cons, List.length_nil, Nat.zero_add, Nat.reduceAdd, if_true, Bool.false_eq_true, if_false, see_int, see_str, see_bl, see_lst, see_tup, see_non, bool_bl, truth_bl, st_ok, oan_nx, oan_rt, oan_bk, oan_ct, fin_rt, fin_nx, tn_nx, tn_rt, tn_ct, tn_bk, andV_bl, orV_bl, notV_bl, List.set_cons_succ, List.set_cons_zero, Bool.not_true, Bool.not_false, Bool.true_and, add_int, sub_int, eq_int, ne_int, lt_int, le_int, gt_int, ge_int, int_int, int_bl, len_lst, len_tup, List.map_cons, List.map_nil, List.length_map, kE]
  have sub1 : ∀ w, gSub (.int (m : Nat)) (.int 1) [] w = .ok (.int ((m - 1 : Nat) : Int)) w := fun w => by
    rw [sub_int, show ((m : Nat) : Int) - 1 = ((m - 1 : Nat) : Int) by omega]
  have run : ∃ w', (b_law (ev 89) [some (.lst (ns.map .int)), none, none, none, none, none, none, none, none, none, none] [] []).fin = .ok (.bl true) w' := by
    unfold b_law
    rw [x_seq, x_set]
    simp only [x_and, x_or, x_not, x_andT, x_orT, x_notT, x_tru, x_test, x_bin, x_un, x_tup, x_lst, x_call, x_call0, x_args, x_args0, x_var, x_k, x_one, x_nil, x_if, List.getElem?_cons_zero, List.getElem?_cons_succ, ofO_ss, an_ok, List.length_cons, List.length_nil, Nat.zero_add, Nat.reduceAdd, if_true, Bool.false_eq_true, if_false, see_int, see_str, see_bl, see_lst, see_tup, see_non, bool_bl, truth_bl, st_ok, oan_nx, oan_rt, oan_bk, oan_ct, fin_rt, fin_nx, tn_nx, tn_rt, tn_ct, tn_bk, andV_bl, orV_bl, notV_bl, List.set_cons_succ, List.set_cons_zero, Bool.not_true, Bool.not_false, Bool.true_and, add_int, sub_int, eq_int, ne_int, lt_int, le_int, gt_int, ge_int, int_int, int_bl, len_lst, len_tup, List.map_cons, List.map_nil, List.length_map, e0]
    rw [x_seq, x_set]
    simp only [x_and, x_or, x_not, x_andT, x_orT, x_notT, x_tru, x_test, x_bin, x_un, x_tup, x_lst, x_call, x_call0, x_args, x_args0, x_var, x_k, x_one, x_nil, x_if, List.getElem?_cons_zero, List.getElem?_cons_succ, ofO_ss, an_ok, List.length_cons, List.length_nil, Nat.zero_add, Nat.reduceAdd, if_true, Bool.false_eq_true, if_false, see_int, see_str, see_bl, see_lst, see_tup, see_non, bool_bl, truth_bl, st_ok, oan_nx, oan_rt, oan_bk, oan_ct, fin_rt, fin_nx, tn_nx, tn_rt, tn_ct, tn_bk, andV_bl, orV_bl, notV_bl, List.set_cons_succ, List.set_cons_zero, Bool.not_true, Bool.not_false, Bool.true_and, add_int, sub_int, eq_int, ne_int, lt_int, le_int, gt_int, ge_int, int_int, int_bl, len_lst, len_tup, List.map_cons, List.map_nil, List.length_map, e1]
    rw [x_seq, x_set]
    simp only [x_and, x_or, x_not, x_andT, x_orT, x_notT, x_tru, x_test, x_bin, x_un, x_tup, x_lst, x_call, x_call0, x_args, x_args0, x_var, x_k, x_one, x_nil, x_if, List.getElem?_cons_zero, List.getElem?_cons_succ, ofO_ss, an_ok, List.length_cons, List.length_nil, Nat.zero_add, Nat.reduceAdd, if_true, Bool.false_eq_true, if_false, see_int, see_str, see_bl, see_lst, see_tup, see_non, bool_bl, truth_bl, st_ok, oan_nx, oan_rt, oan_bk, oan_ct, fin_rt, fin_nx, tn_nx, tn_rt, tn_ct, tn_bk, andV_bl, orV_bl, notV_bl, List.set_cons_succ, List.set_cons_zero, Bool.not_true, Bool.not_false, Bool.true_and, add_int, sub_int, eq_int, ne_int, lt_int, le_int, gt_int, ge_int, int_int, int_bl, len_lst, len_tup, List.map_cons, List.map_nil, List.length_map, e2, e3, sL, e4, ixm]
    rw [x_seq, x_set]
    simp only [x_and, x_or, x_not, x_andT, x_orT, x_notT, x_tru, x_test, x_bin, x_un, x_tup, x_lst, x_call, x_call0, x_args, x_args0, x_var, x_k, x_one, x_nil, x_if, List.getElem?_cons_zero, List.getElem?_cons_succ, ofO_ss, an_ok, List.length_cons, List.length_nil, Nat.zero_add, Nat.reduceAdd, if_true, Bool.false_eq_true, if_false, see_int, see_str, see_bl, see_lst, see_tup, see_non, bool_bl, truth_bl, st_ok, oan_nx, oan_rt, oan_bk, oan_ct, fin_rt, fin_nx, tn_nx, tn_rt, tn_ct, tn_bk, andV_bl, orV_bl, notV_bl, List.set_cons_succ, List.set_cons_zero, Bool.not_true, Bool.not_false, Bool.true_and, add_int, sub_int, eq_int, ne_int, lt_int, le_int, gt_int, ge_int, int_int, int_bl, len_lst, len_tup, List.map_cons, List.map_nil, List.length_map]
    rw [x_seq, x_set]
    simp only [x_and, x_or, x_not, x_andT, x_orT, x_notT, x_tru, x_test, x_bin, x_un, x_tup, x_lst, x_call, x_call0, x_args, x_args0, x_var, x_k, x_one, x_nil, x_if, List.getElem?_cons_zero, List.getElem?_cons_succ, ofO_ss, an_ok, List.length_cons, List.length_nil, Nat.zero_add, Nat.reduceAdd, if_true, Bool.false_eq_true, if_false, see_int, see_str, see_bl, see_lst, see_tup, see_non, bool_bl, truth_bl, st_ok, oan_nx, oan_rt, oan_bk, oan_ct, fin_rt, fin_nx, tn_nx, tn_rt, tn_ct, tn_bk, andV_bl, orV_bl, notV_bl, List.set_cons_succ, List.set_cons_zero, Bool.not_true, Bool.not_false, Bool.true_and, add_int, sub_int, eq_int, ne_int, lt_int, le_int, gt_int, ge_int, int_int, int_bl, len_lst, len_tup, List.map_cons, List.map_nil, List.length_map]
    rw [x_seq, x_set]
    simp only [x_and, x_or, x_not, x_andT, x_orT, x_notT, x_tru, x_test, x_bin, x_un, x_tup, x_lst, x_call, x_call0, x_args, x_args0, x_var, x_k, x_one, x_nil, x_if, List.getElem?_cons_zero, List.getElem?_cons_succ, ofO_ss, an_ok, List.length_cons, List.length_nil, Nat.zero_add, Nat.reduceAdd, if_true, Bool.false_eq_true, if_false, see_int, see_str, see_bl, see_lst, see_tup, see_non, bool_bl, truth_bl, st_ok, oan_nx, oan_rt, oan_bk, oan_ct, fin_rt, fin_nx, tn_nx, tn_rt, tn_ct, tn_bk, andV_bl, orV_bl, notV_bl, List.set_cons_succ, List.set_cons_zero, Bool.not_true, Bool.not_false, Bool.true_and, add_int, sub_int, eq_int, ne_int, lt_int, le_int, gt_int, ge_int, int_int, int_bl, len_lst, len_tup, List.map_cons, List.map_nil, List.length_map]
    have tt : ∀ env w, (sSeq (sTryM [(subO csL subL "InvalidText", sRet (cBin gGt (cVar 5) (cK (.int 60))))] (sSet 9 (cCall (fun ds => if ds.length = 1 then ev 89 .f_parse ds else M.no) (cArgs [cVar 6]))))
      (sRet (cAnd (cBin gLe (cVar 5) (cK (.int 60))) (cAnd (cCall (fun ds => if ds.length = 2 then ev 89 .f_law_same ds else M.no) (cArgs [cVar 9, cVar 4])) (cCall (fun ds => if ds.length = 2 then ev 89 .f_law_same ds else M.no) (cArgs [cCall (fun ds => if ds.length = 1 then ev 89 .f_height ds else M.no) (cArgs [cVar 9]), cVar 5])))))) env [] w = tail10 env [] w := fun _ _ => rfl
    have tw0 := fun j => tw j [P4] (.var "p") 1 "p" none none none none
    simp only [kE] at tw0
    have e4a : ((1 : Nat) : Int) = 1 := rfl
    rw [e4a] at tw0
    have ep : (Fm.var "p").toD = .tup [.str "var", .str "p"] := rfl
    rw [ep] at tw0
    rw [x_seq, x_ifS, tw0, st_ok]
    have hp1 : ("p" : Str).length = 1 := by decide
    have tkp : ∀ t ∈ [Tk.nm "p"], TkOk t := tk_one (name_tk nm_p)
    by_cases c0 : v = 0
    · rw [decide_eq_true c0, if_pos rfl]
      obtain ⟨ps, P5, p5, lp, cs⟩ := signs_loop (n := 89) (by decide) (env := kE (.lst (ns.map .int)) v m (.var "p") 1 "p" none none none none) rfl (by simp) (r := []) (List.range m) P4 p4
      rw [List.length_range] at lp
      have cm : cComp (.nm 10) [10] (cRng1 (cArgs [cVar 3])) (cYes) (eltS 89) kStill (kE (.lst (ns.map .int)) v m (.var "p") 1 "p" none none none none) [] [P4] = .ok (.lst ((ps.map Pre.s).map .str)) [P5] := by
        have it : cRng1 (cArgs [cVar 3]) (kE (.lst (ns.map .int)) v m (.var "p") 1 "p" none none none none) [] [P4] = .ok ((List.range m).map nD) [P4] := by
          rw [x_rng1]
          simp only [x_and, x_or, x_not, x_andT, x_orT, x_notT, x_tru, x_test, x_bin, x_un, x_tup, x_lst, x_call, x_call0, x_args, x_args0, x_var, x_k, x_one, x_nil, x_if, List.getElem?_cons_zero, List.getElem?_cons_succ, ofO_ss, an_ok, List.length_cons, List.length_nil, Nat.zero_add, Nat.reduceAdd, if_true, Bool.false_eq_true, if_false, see_int, see_str, see_bl, see_lst, see_tup, see_non, bool_bl, truth_bl, st_ok, oan_nx, oan_rt, oan_bk, oan_ct, fin_rt, fin_nx, tn_nx, tn_rt, tn_ct, tn_bk, andV_bl, orV_bl, notV_bl, List.set_cons_succ, List.set_cons_zero, Bool.not_true, Bool.not_false, Bool.true_and, add_int, sub_int, eq_int, ne_int, lt_int, le_int, gt_int, ge_int, int_int, int_bl, len_lst, len_tup, List.map_cons, List.map_nil, List.length_map, kE]
          rw [rng1_nat (by omega), rngD_nat]
        rw [x_comp, it, an_ok, if_pos (by rw [List.length_map, List.length_range]; omega)]
        rw [show wipeE (kE (.lst (ns.map .int)) v m (.var "p") 1 "p" none none none none) [10] = kE (.lst (ns.map .int)) v m (.var "p") 1 "p" none none none none from rfl, cs, an_ok, x_still, List.map_map]
        rfl
      have cm' := cm
      unfold eltS at cm'
      simp only [kE] at cm'
      rw [e4a, ep] at cm'
      rw [x_seq, x_set]
      refine (congrArg (fun o : Out D => ∃ w', (OS.an (OS.an (Out.st o _ _) _) _).fin = .ok (.bl true) w') cm').mpr ?_
      simp only [st_ok, oan_nx, List.set_cons_succ, List.set_cons_zero]
      generalize hT : Txt.join "" (ps.map Pre.s) = J
      have cJ : cp J = (ps.map fun x => cp x.s).flatten := by
        rw [← hT, TL.join_eq]
        have := TL.tl_join "" (ps.map Pre.s)
        have e : TL.tl "" = [] := by decide
        rw [e, joinL_nil, List.map_map] at this
        exact this
      have l2 : ∀ l : List Pre, ((l.map fun x => cp x.s).flatten).length ≤ 2 * l.length := fun l => by
        induction l with
        | nil => simp
        | cons x l ih =>
          have : (cp x.s).length ≤ 2 := by cases x <;> decide
          simp only [List.map_cons, List.flatten_cons, List.length_append, List.length_cons]
          omega
      have lJ : J.length ≤ 6000 := by
        have := l2 ps
        rw [← cp_len, cJ]
        omega
      have sm : ((ps.map Pre.s).map (·.length)).sum ≤ 2 * ps.length := by
        have key : ∀ l : List Pre, ((l.map Pre.s).map (·.length)).sum ≤ 2 * l.length := fun l => by
          induction l with
          | nil => simp
          | cons x l ih =>
            have : x.s.length ≤ 2 := by cases x <;> decide
            simp only [List.map_cons, List.sum_cons, List.length_cons]
            omega
        exact key ps
      have jn : ∀ w, gJoin "" (.lst ((ps.map Pre.s).map .str)) [] w = .ok (.str J) w := fun w => by
        rw [join_lst, hT]
        have e0 : ("" : Str).length = 0 := by decide
        rw [e0]
        omega
      have ct : ∀ w, gAdd (.str J) (.str "p") [] w = .ok (.str (J ++ "p")) w := fun w => catB (by omega)
      have cj : cBin gAdd (cJoin (cK (.str "")) (cVar 7)) (cK (.str "p")) (kE (.lst (ns.map .int)) v m (.var "p") 1 "p" (some (.lst ((ps.map Pre.s).map .str))) none none none) [] [P5] = .ok (.str (J ++ "p")) [P5] := by
        rw [x_bin, x_join (x := "") rfl]
        simp only [kE, x_var, List.getElem?_cons_zero, List.getElem?_cons_succ, ofO_ss, an_ok, sL, jn, x_k, see_str, ct]
      have cj' := cj
      simp only [kE] at cj'
      rw [e4a, ep] at cj'
      rw [x_seq, x_set]
      rw [cj']
      simp only [st_ok, oan_nx, List.set_cons_succ, List.set_cons_zero]
      obtain ⟨a', e8', hl1, hl2⟩ := tall_loop (n := 89) (by decide) (S := .lst (ns.map .int)) (w' := v) (m := m) (T := J ++ "p") (e7 := some (.lst ((ps.map Pre.s).map .str))) (e9 := none) (e10 := none) (w := [P5]) ps.reverse [] (.var "p") none (fun _ => rfl)
      rw [List.nil_append] at hl1 hl2
      have it2 : cSeq (cSlR (cVar 7) (cPart (cUn gNeg (cK (.int 1))))) (kE (.lst (ns.map .int)) v m (.var "p") 1 (J ++ "p") (some (.lst ((ps.map Pre.s).map .str))) none none none) [] [P5] = .ok (ps.reverse.map fun x => .str x.s) [P5] := by
        have ng : gNeg (.int 1) [] [P5] = .ok (.int (-1)) [P5] := rfl
        rw [x_seqI, x_slR]
        simp only [kE, x_var, x_part, x_un, x_k, List.getElem?_cons_zero, List.getElem?_cons_succ, ofO_ss, an_ok, see_int, ng, partV_int, sL, slR_lst, seqV_lst]
        rw [← List.map_reverse, ← List.map_reverse, List.map_map]
        rfl
      have it2' := it2
      simp only [kE] at it2'
      rw [e4a, ep] at it2'
      rw [x_for, it2', st_ok]
      unfold sTall at hl2
      have hl2' := hl2
      simp only [kE] at hl2'
      refine (congrArg (fun o : OS => ∃ w', (OS.an o _).fin = .ok (.bl true) w') hl2').mpr ?_
      rw [oan_nx]
      have lx : Lx (cp (J ++ "p")) ((ps.map Tk.pre ++ [Tk.nm "p"]).map Tk.s) := by
        rw [cp_app, cJ]
        exact lx_pre ps
      have pr := prs_pre ps "p"
      refine tail_ok (t := (appAll ps.reverse (.var "p")).ht) (a := a') lx (tk_app (tk_pres ps) tkp) (by rw [← cp_len, cp_app, List.length_append, cp_len, cp_len]; omega) ?_
      by_cases c : (appAll ps.reverse (.var "p")).ht ≤ 60
      · rw [if_pos c] at pr
        rw [hl1 c]
        exact .inl ⟨pr, rfl, c, appAll_over _ _ p_ok⟩
      · rw [if_neg c] at pr
        exact .inr ⟨pr, by omega⟩
    · rw [decide_eq_false c0, if_neg Bool.false_ne_true, x_ifS, tw0, st_ok]
      by_cases c1 : v = 1
      · rw [decide_eq_true c1, if_pos rfl]
        have mq := mulT (s := "q -> ") (k := m - 1) (w := [P4]) (by decide) (by omega)
        have lq : ("q -> " : Str).length = 5 := by decide
        have ct : gAdd (.str (Txt.mul "q -> " ((m - 1 : Nat) : Int))) (.str "p") [] [P4] = .ok (.str (Txt.mul "q -> " ((m - 1 : Nat) : Int) ++ "p")) [P4] := catB (by rw [len_mul, lq]; omega)
        rw [x_seq, x_set]
        simp only [x_and, x_or, x_not, x_andT, x_orT, x_notT, x_tru, x_test, x_bin, x_un, x_tup, x_lst, x_call, x_call0, x_args, x_args0, x_var, x_k, x_one, x_nil, x_if, List.getElem?_cons_zero, List.getElem?_cons_succ, ofO_ss, an_ok, List.length_cons, List.length_nil, Nat.zero_add, Nat.reduceAdd, if_true, Bool.false_eq_true, if_false, see_int, see_str, see_bl, see_lst, see_tup, see_non, bool_bl, truth_bl, st_ok, oan_nx, oan_rt, oan_bk, oan_ct, fin_rt, fin_nx, tn_nx, tn_rt, tn_ct, tn_bk, andV_bl, orV_bl, notV_bl, List.set_cons_succ, List.set_cons_zero, Bool.not_true, Bool.not_false, Bool.true_and, add_int, sub_int, eq_int, ne_int, lt_int, le_int, gt_int, ge_int, int_int, int_bl, len_lst, len_tup, List.map_cons, List.map_nil, List.length_map, sub1, mq, ct]
        rw [x_seq, x_set]
        simp only [x_and, x_or, x_not, x_andT, x_orT, x_notT, x_tru, x_test, x_bin, x_un, x_tup, x_lst, x_call, x_call0, x_args, x_args0, x_var, x_k, x_one, x_nil, x_if, List.getElem?_cons_zero, List.getElem?_cons_succ, ofO_ss, an_ok, List.length_cons, List.length_nil, Nat.zero_add, Nat.reduceAdd, if_true, Bool.false_eq_true, if_false, see_int, see_str, see_bl, see_lst, see_tup, see_non, bool_bl, truth_bl, st_ok, oan_nx, oan_rt, oan_bk, oan_ct, fin_rt, fin_nx, tn_nx, tn_rt, tn_ct, tn_bk, andV_bl, orV_bl, notV_bl, List.set_cons_succ, List.set_cons_zero, Bool.not_true, Bool.not_false, Bool.true_and, add_int, sub_int, eq_int, ne_int, lt_int, le_int, gt_int, ge_int, int_int, int_bl, len_lst, len_tup, List.map_cons, List.map_nil, List.length_map]
        obtain ⟨l, ll, it⟩ := min_61 m hm1 (kE (.lst (ns.map .int)) v m (.var "p") m (Txt.mul "q -> " ((m - 1 : Nat) : Int) ++ "p") none none none none) [P4] rfl
        have it' := it
        simp only [kE] at it'
        rw [ep] at it'
        obtain ⟨e10', wl⟩ := wrap_loop (S := .lst (ns.map .int)) (w' := v) (m := m) (t := m) (T := Txt.mul "q -> " ((m - 1 : Nat) : Int) ++ "p") (e7 := none) (e8 := none) (e9 := none) (w := [P4]) (s := sSet 4 (cTup (cArgs [cK (.str "implies"), cTup (cArgs [cK (.str "var"), cK (.str "q")]), cVar 4]))) (f := fun a => .imp (.var "q") a) (fun a i => rfl) l (.var "p") none
        have wl' := wl
        simp only [kE] at wl'
        rw [ep] at wl'
        rw [x_for, it', st_ok]
        refine (congrArg (fun o : OS => ∃ w', (OS.an o _).fin = .ok (.bl true) w') wl').mpr ?_
        rw [oan_nx, foldl_imp, ll]
        have lx : Lx (cp (Txt.mul "q -> " ((m - 1 : Nat) : Int) ++ "p")) ((impT (m - 1) ++ [Tk.nm "p"]).map Tk.s) := by
          rw [cp_app, cp_mul]
          exact lx_imp (m - 1)
        have pr := prs_imp (m - 1)
        have h1 := impN_ht (m - 1) (.var "p")
        have hv : (Fm.var "p").ht = 1 := rfl
        refine tail_ok (t := m) (a := impN (min m 61 - 1) (.var "p")) lx (tk_app (tk_impT (m - 1)) tkp) (by rw [← cp_len, cp_app, List.length_append, cp_len, cp_len, len_mul, lq]; omega) ?_
        by_cases c : m ≤ 60
        · rw [if_pos (by omega)] at pr
          rw [show min m 61 - 1 = m - 1 by omega]
          exact .inl ⟨pr, by omega, c, impN_over q_ok _ _ p_ok⟩
        · rw [if_neg (by omega)] at pr
          exact .inr ⟨pr, by omega⟩
      · rw [decide_eq_false c1, if_neg Bool.false_ne_true, x_ifS]
        have t4 : cTest (cBin gLt (cVar 2) (cK (.int 4))) [some (.lst (ns.map .int)), some (.ref 0), some (.int v), some (.int (m : Nat)), some (.tup [.str "var", .str "p"]), some (.int 1), some (.str "p"), none, none, none, none] [] [P4] = .ok (decide (v < 4)) [P4] := by
          simp only [x_and, x_or, x_not, x_andT, x_orT, x_notT, x_tru, x_test, x_bin, x_un, x_tup, x_lst, x_call, x_call0, x_args, x_args0, x_var, x_k, x_one, x_nil, x_if, List.getElem?_cons_zero, List.getElem?_cons_succ, ofO_ss, an_ok, List.length_cons, List.length_nil, Nat.zero_add, Nat.reduceAdd, if_true, Bool.false_eq_true, if_false, see_int, see_str, see_bl, see_lst, see_tup, see_non, bool_bl, truth_bl, st_ok, oan_nx, oan_rt, oan_bk, oan_ct, fin_rt, fin_nx, tn_nx, tn_rt, tn_ct, tn_bk, andV_bl, orV_bl, notV_bl, List.set_cons_succ, List.set_cons_zero, Bool.not_true, Bool.not_false, Bool.true_and, add_int, sub_int, eq_int, ne_int, lt_int, le_int, gt_int, ge_int, int_int, int_bl, len_lst, len_tup, List.map_cons, List.map_nil, List.length_map]
        rw [t4, st_ok]
        by_cases c4 : v < 4
        · rw [decide_eq_true c4, if_pos rfl]
          obtain ⟨x, hx, ixs⟩ : ∃ x : Bi, (x = .or ∨ x = .and) ∧ ∀ w, gIx (.lst [.str "|", .str "&"]) (.int (v - 2)) [] w = .ok (.str x.s) w := by
            have : v = 2 ∨ v = 3 := by omega
            rcases this with rfl | rfl
            · exact ⟨.or, .inl rfl, fun _ => rfl⟩
            · exact ⟨.and, .inr rfl, fun _ => rfl⟩
          have ls : x.s.length = 1 := by rcases hx with rfl | rfl <;> decide
          have l1 : (" " : Str).length = 1 ∧ (" q" : Str).length = 2 := by decide
          have k1 : ∀ w, gAdd (.str " ") (.str x.s) [] w = .ok (.str (" " ++ x.s)) w := fun w => catB (by omega)
          have la : (" " ++ x.s : Str).length = 2 := by rw [← cp_len, cp_app, List.length_append, cp_len, cp_len]; omega
          have k2 : ∀ w, gAdd (.str (" " ++ x.s)) (.str " q") [] w = .ok (.str (" " ++ x.s ++ " q")) w := fun w => catB (by omega)
          have lb : (" " ++ x.s ++ " q" : Str).length = 4 := by rw [← cp_len, cp_app, List.length_append, cp_len, cp_len]; omega
          have mq := mulT (s := " " ++ x.s ++ " q") (k := m - 1) (w := [P4]) (by omega) (by omega)
          have ct : gAdd (.str "p") (.str (Txt.mul (" " ++ x.s ++ " q") ((m - 1 : Nat) : Int))) [] [P4] = .ok (.str ("p" ++ Txt.mul (" " ++ x.s ++ " q") ((m - 1 : Nat) : Int))) [P4] := catB (by rw [len_mul, lb]; omega)
          rw [x_seq, x_set]
          simp only [x_and, x_or, x_not, x_andT, x_orT, x_notT, x_tru, x_test, x_bin, x_un, x_tup, x_lst, x_call, x_call0, x_args, x_args0, x_var, x_k, x_one, x_nil, x_if, List.getElem?_cons_zero, List.getElem?_cons_succ, ofO_ss, an_ok, List.length_cons, List.length_nil, Nat.zero_add, Nat.reduceAdd, if_true, Bool.false_eq_true, if_false, see_int, see_str, see_bl, see_lst, see_tup, see_non, bool_bl, truth_bl, st_ok, oan_nx, oan_rt, oan_bk, oan_ct, fin_rt, fin_nx, tn_nx, tn_rt, tn_ct, tn_bk, andV_bl, orV_bl, notV_bl, List.set_cons_succ, List.set_cons_zero, Bool.not_true, Bool.not_false, Bool.true_and, add_int, sub_int, eq_int, ne_int, lt_int, le_int, gt_int, ge_int, int_int, int_bl, len_lst, len_tup, List.map_cons, List.map_nil, List.length_map, ixs, sL]
          rw [x_seq, x_set]
          simp only [x_and, x_or, x_not, x_andT, x_orT, x_notT, x_tru, x_test, x_bin, x_un, x_tup, x_lst, x_call, x_call0, x_args, x_args0, x_var, x_k, x_one, x_nil, x_if, List.getElem?_cons_zero, List.getElem?_cons_succ, ofO_ss, an_ok, List.length_cons, List.length_nil, Nat.zero_add, Nat.reduceAdd, if_true, Bool.false_eq_true, if_false, see_int, see_str, see_bl, see_lst, see_tup, see_non, bool_bl, truth_bl, st_ok, oan_nx, oan_rt, oan_bk, oan_ct, fin_rt, fin_nx, tn_nx, tn_rt, tn_ct, tn_bk, andV_bl, orV_bl, notV_bl, List.set_cons_succ, List.set_cons_zero, Bool.not_true, Bool.not_false, Bool.true_and, add_int, sub_int, eq_int, ne_int, lt_int, le_int, gt_int, ge_int, int_int, int_bl, len_lst, len_tup, List.map_cons, List.map_nil, List.length_map, k1, k2, sub1, mq, ct]
          rw [x_seq, x_set]
          simp only [x_and, x_or, x_not, x_andT, x_orT, x_notT, x_tru, x_test, x_bin, x_un, x_tup, x_lst, x_call, x_call0, x_args, x_args0, x_var, x_k, x_one, x_nil, x_if, List.getElem?_cons_zero, List.getElem?_cons_succ, ofO_ss, an_ok, List.length_cons, List.length_nil, Nat.zero_add, Nat.reduceAdd, if_true, Bool.false_eq_true, if_false, see_int, see_str, see_bl, see_lst, see_tup, see_non, bool_bl, truth_bl, st_ok, oan_nx, oan_rt, oan_bk, oan_ct, fin_rt, fin_nx, tn_nx, tn_rt, tn_ct, tn_bk, andV_bl, orV_bl, notV_bl, List.set_cons_succ, List.set_cons_zero, Bool.not_true, Bool.not_false, Bool.true_and, add_int, sub_int, eq_int, ne_int, lt_int, le_int, gt_int, ge_int, int_int, int_bl, len_lst, len_tup, List.map_cons, List.map_nil, List.length_map]
          obtain ⟨l, ll, it⟩ := min_61 m hm1 (kE (.lst (ns.map .int)) v m (.var "p") m ("p" ++ Txt.mul (" " ++ x.s ++ " q") ((m - 1 : Nat) : Int)) none (some (.str x.s)) none none) [P4] rfl
          have it' := it
          simp only [kE] at it'
          rw [ep] at it'
          obtain ⟨e10', wl⟩ := wrap_loop (S := .lst (ns.map .int)) (w' := v) (m := m) (t := m) (T := "p" ++ Txt.mul (" " ++ x.s ++ " q") ((m - 1 : Nat) : Int)) (e7 := none) (e8 := some (.str x.s)) (e9 := none) (w := [P4]) (s := sSet 4 (cTup (cArgs [cDGet (cDisp [((cK (.str "|")), (cK (.str "or"))), ((cK (.str "&")), (cK (.str "and")))]) (cVar 8), cVar 4, cTup (cArgs [cK (.str "var"), cK (.str "q")])]))) (f := fun a => x.app a (.var "q")) (fun a i => by rcases hx with rfl | rfl <;> rfl) l (.var "p") none
          have wl' := wl
          simp only [kE] at wl'
          rw [ep] at wl'
          rw [x_for, it', st_ok]
          refine (congrArg (fun o : OS => ∃ w', (OS.an o _).fin = .ok (.bl true) w') wl').mpr ?_
          rw [oan_nx, foldl_l, ll]
          have cu : cp (" " ++ x.s ++ " q") = unitL x := by rcases hx with rfl | rfl <;> decide
          have lx : Lx (cp ("p" ++ Txt.mul (" " ++ x.s ++ " q") ((m - 1 : Nat) : Int))) ((Tk.nm "p" :: lT x (m - 1)).map Tk.s) := by
            rw [cp_app, cp_mul, cu]
            exact lx_p (lx_l x (m - 1)).1 (lx_l x (m - 1)).2
          have pr := prs_l hx (m - 1)
          have h1 := lN_ht hx (m - 1) (.var "p")
          have hv : (Fm.var "p").ht = 1 := rfl
          refine tail_ok (t := m) (a := lN x (min m 61 - 1) (.var "p")) lx (tk_cons (name_tk nm_p) (tk_lT x (m - 1))) (by rw [← cp_len, cp_app, List.length_append, cp_len, cp_len, len_mul, lb]; omega) ?_
          by_cases c : m ≤ 60
          · rw [if_pos (by omega)] at pr
            rw [show min m 61 - 1 = m - 1 by omega]
            exact .inl ⟨pr, by omega, c, lN_over q_ok hx _ _ p_ok⟩
          · rw [if_neg (by omega)] at pr
            exact .inr ⟨pr, by omega⟩
        · rw [decide_eq_false c4, if_neg Bool.false_ne_true]
          have lo : ("(" : Str).length = 1 ∧ (")" : Str).length = 1 := by decide
          have m1 := mulT (s := "(") (k := m) (w := [P4]) (by omega) hm2
          have m2 := mulT (s := ")") (k := m) (w := [P4]) (by omega) hm2
          have k1 : gAdd (.str (Txt.mul "(" (m : Int))) (.str "p") [] [P4] = .ok (.str (Txt.mul "(" (m : Int) ++ "p")) [P4] := catB (by rw [len_mul, lo.1]; omega)
          have lb : (Txt.mul "(" (m : Int) ++ "p").length = m + 1 := by rw [← cp_len, cp_app, List.length_append, cp_len, cp_len, len_mul, lo.1]; omega
          have k2 : gAdd (.str (Txt.mul "(" (m : Int) ++ "p")) (.str (Txt.mul ")" (m : Int))) [] [P4] = .ok (.str (Txt.mul "(" (m : Int) ++ "p" ++ Txt.mul ")" (m : Int))) [P4] := catB (by rw [len_mul, lb, lo.2]; omega)
          rw [x_seq, x_set]
          simp only [x_and, x_or, x_not, x_andT, x_orT, x_notT, x_tru, x_test, x_bin, x_un, x_tup, x_lst, x_call, x_call0, x_args, x_args0, x_var, x_k, x_one, x_nil, x_if, List.getElem?_cons_zero, List.getElem?_cons_succ, ofO_ss, an_ok, List.length_cons, List.length_nil, Nat.zero_add, Nat.reduceAdd, if_true, Bool.false_eq_true, if_false, see_int, see_str, see_bl, see_lst, see_tup, see_non, bool_bl, truth_bl, st_ok, oan_nx, oan_rt, oan_bk, oan_ct, fin_rt, fin_nx, tn_nx, tn_rt, tn_ct, tn_bk, andV_bl, orV_bl, notV_bl, List.set_cons_succ, List.set_cons_zero, Bool.not_true, Bool.not_false, Bool.true_and, add_int, sub_int, eq_int, ne_int, lt_int, le_int, gt_int, ge_int, int_int, int_bl, len_lst, len_tup, List.map_cons, List.map_nil, List.length_map, m1, m2, k1, k2]
          rw [x_set]
          have ci : cIf (cTest (cBin gGt (cVar 3) (cK (.int 60)))) (cK (.int 61)) (cK (.int 1)) [some (.lst (ns.map .int)), some (.ref 0), some (.int v), some (.int (m : Nat)), some (.tup [.str "var", .str "p"]), some (.int 1), some (.str (Txt.mul "(" (m : Int) ++ "p" ++ Txt.mul ")" (m : Int))), none, none, none, none] [] [P4] = .ok (.int ((if m ≤ 60 then 1 else 61 : Nat) : Int)) [P4] := by
            have d : decide ((60 : Int) < (m : Nat)) = decide (60 < m) := decide_eq_decide.mpr (by omega)
            rw [x_if]
            simp only [x_test, x_bin, x_var, x_k, List.getElem?_cons_zero, List.getElem?_cons_succ, ofO_ss, an_ok, see_int, gt_int, d, bool_bl]
            by_cases c : m ≤ 60
            · rw [decide_eq_false (by omega), if_neg Bool.false_ne_true, if_pos c]
              rfl
            · rw [decide_eq_true (by omega), if_pos rfl, if_neg c]
              rfl
          rw [ci]
          simp only [st_ok, oan_nx, List.set_cons_succ, List.set_cons_zero]
          have c40 : cp "(" = [40] := by decide
          have c41 : cp ")" = [41] := by decide
          have lx : Lx (cp (Txt.mul "(" (m : Int) ++ "p" ++ Txt.mul ")" (m : Int))) ((List.replicate m Tk.op ++ (Tk.nm "p" :: List.replicate m Tk.cl)).map Tk.s) := by
            rw [cp_app, cp_app, cp_mul, cp_mul, c40, c41, flat_one, flat_one, List.append_assoc]
            exact lx_br m m
          have pr := prs_br m
          have hv : (Fm.var "p").ht = 1 := rfl
          refine tail_ok (t := if m ≤ 60 then 1 else 61) (a := .var "p") lx (tk_app (tk_rep (t0 := Tk.op) trivial m) (tk_cons (name_tk nm_p) (tk_rep (t0 := Tk.cl) trivial m))) (by rw [← cp_len, cp_app, List.length_append, cp_len, cp_len, len_mul, lb, lo.2]; omega) ?_
          by_cases c : m ≤ 60
          · rw [if_pos c] at pr ⊢
            exact .inl ⟨pr, rfl, by decide, p_ok⟩
          · rw [if_neg c] at pr ⊢
            exact .inr ⟨pr, by decide⟩
  obtain ⟨w', rr⟩ := run
  refine ⟨w', ?_⟩
  rw [q_law, x_def]
  simp only [List.length_cons, List.length_nil, Nat.zero_add, Nat.reduceAdd, if_true, List.map_cons, List.map_nil, Nat.reduceSub, List.replicate, List.cons_append, List.nil_append]
  exact rr
end K
open PySem PySem.W PyProof.Rows
set_option maxHeartbeats 0 in
theorem PySem.Challenge.cw_elsewhere_k10_heights_and_brackets_at_th_holds : PySem.Challenge.rw_elsewhere_k10_heights_and_brackets_at_th.Holds := by
  w_on; o_law; k_head; (case hw => w_witness2)
  k_fill
  refine Fx.law_end (l := PySem.Challenge.rw_elsewhere_k10_heights_and_brackets_at_th) (N := 90) (x := "_law_script") (g := K.ev 90 .f_law) rfl rfl ⟨rfl, by decide, by decide⟩ (fun w h Y => PySem.W.kIn_of Y) ?F K.law_true
  case F =>
    intro w mg fa h KX G hmg
    refine' K.fin_ok (K.ad_mk KX G hmg ?ka0 ?kb0 ?kc0 ?kd0 ?ke0 ?kf0 ?kg0 ?kh0_0 ?a0 ?l0 ?c0 ?k0 ?a1 ?l1 ?c1 ?k1 ?a2 ?l2 ?c2 ?k2 ?a3 ?l3 ?c3 ?k3 ?a4 ?l4 ?c4 ?k4 ?a5 ?l5 ?c5 ?k5 ?a6 ?l6 ?c6 ?k6 ?a7 ?l7 ?c7 ?k7 ?a8 ?l8 ?c8 ?k8 ?a9 ?l9 ?c9 ?k9 ?a10 ?l10 ?c10 ?k10 ?a11 ?l11 ?c11 ?k11 ?a12 ?l12 ?c12 ?k12 ?a13 ?l13 ?c13 ?k13 ?a14 ?l14 ?c14 ?k14 ?a15 ?l15 ?c15 ?k15 ?a16 ?l16 ?c16 ?k16 ?a17 ?l17 ?c17 ?k17 ?a18 ?l18 ?c18 ?k18 ?a19 ?l19 ?c19 ?k19 ?a20 ?i20 ?l20 ?c20 ?k20 ?a21 ?i21 ?l21 ?c21 ?k21 ?a22 ?i22 ?l22 ?c22 ?k22 ?a23 ?i23 ?l23 ?c23 ?k23 ?a24 ?i24 ?l24 ?c24 ?k24 ?z0 ?z1 ?z2 ?z3 ?z4 ?z5 ?z6 ?z7 ?z8 ?z9 ?cg0 ?ch0 ?cg1 ?cg2 ?cg3 ?cg4 ?ch4 ?ta0 ?tb0 ?tc0 ?ti0_0 ?ti0_1 ?ti0_2 ?ti0_3 ?xos0 ?xoq0 ?ta1 ?tb1 ?tc1 ?ti1_0 ?ti1_1 ?ti1_2 ?ti1_3 ?xos1 ?xoq1 ?ta2 ?tb2 ?tc2 ?ti2_0 ?ti2_1 ?ti2_2 ?xos2 ?xoq2 ?xa0 ?xb0 ?xc0 ?xd0 ?xe0 ?xf0 ?xg0 ?xh0 ?xi0 ?xj0 ?xk0 ?xl0 ?xm0_0 ?xo0_0)
    (case ka0 => k_is)
    (case kb0 => k_is)
    (case kc0 => k_is)
    (case kd0 => k_is)
    (case ke0 => k_is)
    (case kf0 => k_is)
    (case kg0 => k_is)
    (case kh0_0 => k_is)
    (case a0 => k_is)
    (case l0 => k_is)
    (case c0 => k_is)
    (case k0 => k_is)
    (case a1 => k_is)
    (case l1 => k_is)
    (case c1 => k_is)
    (case k1 => k_is)
    (case a2 => k_is)
    (case l2 => k_is)
    (case c2 => k_is)
    (case k2 => k_is)
    (case a3 => k_is)
    (case l3 => k_is)
    (case c3 => k_is)
    (case k3 => k_is)
    (case a4 => k_is)
    (case l4 => k_is)
    (case c4 => k_is)
    (case k4 => k_is)
    (case a5 => k_is)
    (case l5 => k_is)
    (case c5 => k_is)
    (case k5 => k_is)
    (case a6 => k_is)
    (case l6 => k_is)
    (case c6 => k_is)
    (case k6 => k_is)
    (case a7 => k_is)
    (case l7 => k_is)
    (case c7 => k_is)
    (case k7 => k_is)
    (case a8 => k_is)
    (case l8 => k_is)
    (case c8 => k_is)
    (case k8 => k_is)
    (case a9 => k_is)
    (case l9 => k_is)
    (case c9 => k_is)
    (case k9 => k_is)
    (case a10 => k_is)
    (case l10 => k_is)
    (case c10 => k_is)
    (case k10 => k_is)
    (case a11 => k_is)
    (case l11 => k_is)
    (case c11 => k_is)
    (case k11 => k_is)
    (case a12 => k_is)
    (case l12 => k_is)
    (case c12 => k_is)
    (case k12 => k_is)
    (case a13 => k_is)
    (case l13 => k_is)
    (case c13 => k_is)
    (case k13 => k_is)
    (case a14 => k_is)
    (case l14 => k_is)
    (case c14 => k_is)
    (case k14 => k_is)
    (case a15 => k_is)
    (case l15 => k_is)
    (case c15 => k_is)
    (case k15 => k_is)
    (case a16 => k_is)
    (case l16 => k_is)
    (case c16 => k_is)
    (case k16 => k_is)
    (case a17 => k_is)
    (case l17 => k_is)
    (case c17 => k_is)
    (case k17 => k_is)
    (case a18 => k_is)
    (case l18 => k_is)
    (case c18 => k_is)
    (case k18 => k_is)
    (case a19 => k_is)
    (case l19 => k_is)
    (case c19 => k_is)
    (case k19 => k_is)
    (case a20 => k_is)
    (case i20 => k_is)
    (case l20 => k_is)
    (case c20 => k_is)
    (case k20 => k_is)
    (case a21 => k_is)
    (case i21 => k_is)
    (case l21 => k_is)
    (case c21 => k_is)
    (case k21 => k_is)
    (case a22 => k_is)
    (case i22 => k_is)
    (case l22 => k_is)
    (case c22 => k_is)
    (case k22 => k_is)
    (case a23 => k_is)
    (case i23 => k_is)
    (case l23 => k_is)
    (case c23 => k_is)
    (case k23 => k_is)
    (case a24 => k_is)
    (case i24 => k_is)
    (case l24 => k_is)
    (case c24 => k_is)
    (case k24 => k_is)
    (case z0 => k_is)
    (case z1 => k_is)
    (case z2 => k_is)
    (case z3 => k_is)
    (case z4 => k_is)
    (case z5 => k_is)
    (case z6 => k_is)
    (case z7 => k_is)
    (case z8 => k_is)
    (case z9 => k_is)
    (case cg0 => k_is)
    (case ch0 => k_is)
    (case cg1 => k_is)
    (case cg2 => k_is)
    (case cg3 => k_is)
    (case cg4 => k_is)
    (case ch4 => k_is)
    (case ta0 => k_is)
    (case tb0 => k_is)
    (case tc0 => k_keys)
    (case ti0_0 => k_is)
    (case ti0_1 => k_is)
    (case ti0_2 => k_is)
    (case ti0_3 => k_is)
    (case xos0 => rfl)
    (case xoq0 => rfl)
    (case ta1 => k_is)
    (case tb1 => k_is)
    (case tc1 => k_keys)
    (case ti1_0 => k_is)
    (case ti1_1 => k_is)
    (case ti1_2 => k_is)
    (case ti1_3 => k_is)
    (case xos1 => rfl)
    (case xoq1 => rfl)
    (case ta2 => k_is)
    (case tb2 => k_is)
    (case tc2 => k_keys)
    (case ti2_0 => k_is)
    (case ti2_1 => k_is)
    (case ti2_2 => k_is)
    (case xos2 => rfl)
    (case xoq2 => rfl)
    (case xa0 => k_is)
    (case xb0 => k_exc)
    (case xc0 => k_is)
    (case xd0 => k_is)
    (case xe0 => k_is)
    (case xf0 => k_is)
    (case xg0 => k_is)
    (case xh0 => k_is)
    (case xi0 => k_is)
    (case xj0 => k_is)
    (case xk0 => k_is)
    (case xl0 => k_is)
    (case xm0_0 => k_is)
    (case xo0_0 => rfl)
