import PyProof.Rows.All
import Wide.All
import OpenK.AllK
import Wide.FinOn
import HandS.ForMost
import HandS.Conv
import HandS.Wide
import HandS.TupAny
import HandS.TupMul
import HandS.Deep
import HandS.Flow
import HandS.Style
import KE.SortData
import HandS.SetFor
import HandS.Strs
import HandS.SortInts
import HandS.Base
import HandS.Call
import HandS.List
import HandS.Iter
import KE.GoesEnum
import KE.GoesEnumKw
import KE.DataMinMax
import KE.DatumOrd
import HandS.SetKeys
import HandS.Star
import HandS.IsInst
import HandS.More
import HandS.Gcd
import KE.KMathGC
import HandS.NoneIn
import HandS.DictComp
import HandS.Ends
import HandS.Words
import HandS.Defaults
import PyProof.Rows.ReprOcc
import PyProof.ReprBulk
import PySem.Challenge.RW_turnsorsays_k01_parts_of_patterns
set_option Elab.async false
set_option linter.all false
set_option maxRecDepth 100000
set_option maxHeartbeats 4000000
/-! EV1: own values of the evaluator, its heap, how they stand in the abstract heap of the hand layer. -/
namespace EV
open PySem PySem.Spec L2

/-- a value of the evaluator: tuples are trees, `ref n` is the n-th changing object, `fl` a list that is never written -/
inductive PV where
  | non | bl (b : Bool) | int (i : Int) | str (x : Str) | tup (xs : List PV) | ref (n : Nat) | fl (xs : List PV)

mutual
def PV.deq : (a b : PV) → Decidable (a = b)
  | .non, .non => .isTrue rfl
  | .bl a, .bl b => if h : a = b then .isTrue (by rw [h]) else .isFalse fun e => h (PV.bl.inj e)
  | .int a, .int b => if h : a = b then .isTrue (by rw [h]) else .isFalse fun e => h (PV.int.inj e)
  | .str a, .str b => if h : a = b then .isTrue (by rw [h]) else .isFalse fun e => h (PV.str.inj e)
  | .tup a, .tup b => match PV.deqs a b with
    | .isTrue h => .isTrue (by rw [h])
    | .isFalse h => .isFalse fun e => h (PV.tup.inj e)
  | .ref a, .ref b => if h : a = b then .isTrue (by rw [h]) else .isFalse fun e => h (PV.ref.inj e)
  | .fl a, .fl b => match PV.deqs a b with
    | .isTrue h => .isTrue (by rw [h])
    | .isFalse h => .isFalse fun e => h (PV.fl.inj e)
  | .non, .bl _ | .non, .int _ | .non, .str _ | .non, .tup _ | .non, .ref _ | .non, .fl _ => .isFalse nofun
  | .bl _, .non | .bl _, .int _ | .bl _, .str _ | .bl _, .tup _ | .bl _, .ref _ | .bl _, .fl _ => .isFalse nofun
  | .int _, .non | .int _, .bl _ | .int _, .str _ | .int _, .tup _ | .int _, .ref _ | .int _, .fl _ => .isFalse nofun
  | .str _, .non | .str _, .bl _ | .str _, .int _ | .str _, .tup _ | .str _, .ref _ | .str _, .fl _ => .isFalse nofun
  | .tup _, .non | .tup _, .bl _ | .tup _, .int _ | .tup _, .str _ | .tup _, .ref _ | .tup _, .fl _ => .isFalse nofun
  | .ref _, .non | .ref _, .bl _ | .ref _, .int _ | .ref _, .str _ | .ref _, .tup _ | .ref _, .fl _ => .isFalse nofun
  | .fl _, .non | .fl _, .bl _ | .fl _, .int _ | .fl _, .str _ | .fl _, .tup _ | .fl _, .ref _ => .isFalse nofun
def PV.deqs : (a b : List PV) → Decidable (a = b)
  | [], [] => .isTrue rfl
  | x :: xs, y :: ys => match PV.deq x y, PV.deqs xs ys with
    | .isTrue h, .isTrue h' => .isTrue (by rw [h, h'])
    | .isFalse h, _ => .isFalse fun e => h (List.cons.inj e).1
    | _, .isFalse h => .isFalse fun e => h (List.cons.inj e).2
  | [], _ :: _ => .isFalse nofun
  | _ :: _, [] => .isFalse nofun
end
instance : DecidableEq PV := PV.deq

/-- a changing object -/
inductive EO where
  | lst (xs : List PV)
  | dict (kvs : List (PV × PV))
  | fd (kvs : List (PV × PV))
  | iset (xs : List Int)
abbrev EH := List EO
abbrev Sg := List (Option PV)

/-- a key of a dict: an int or a text -/
def keyOf : PV → Option Key
  | .int i => some (.inl i)
  | .str x => some (.inr x)
  | _ => none

/-- a list that is not written: frozen, or an object of the module -/
def FzL (K : PySem.W.Frag) (H : Hp) (a : Addr) (xs : List V) : Prop :=
  (∃ o, H a = some (.frz o (.lst xs))) ∨
    ∃ (o : Obj) (its : Array Value) (n : Nat), K.lookup a = some o ∧ o.cls = .type "list" ∧ o.dict = none ∧ o.data = .seq its n ∧ its.size ≤ sizeLine ∧ Vals xs its.toList
theorem FzL.sq {K : PySem.W.Frag} {H : Hp} {a : Addr} {xs : List V} (h : FzL K H a xs) : SqL K H a xs := by
  rcases h with ⟨o, h⟩ | h
  · exact Or.inl (Or.inr ⟨o, h⟩)
  · exact Or.inr h

mutual
/-- how a value of the evaluator stands in the abstract heap; φ: the addresses of the objects -/
inductive RV (K : PySem.W.Frag) (φ : List Addr) (H : Hp) : PV → V → Prop
  | non : RV K φ H .non .non
  | bl (b : Bool) : RV K φ H (.bl b) (.bl b)
  | int (i : Int) : RV K φ H (.int i) (.int i)
  | str (x : Str) : RV K φ H (.str x) (.str x)
  | tup {a : Addr} {ps : List PV} {vs : List V} : SqT K H a vs → RVs K φ H ps vs → RV K φ H (.tup ps) (.ref a)
  | ref {n : Nat} {a : Addr} : φ[n]? = some a → RV K φ H (.ref n) (.ref a)
  | fl {a : Addr} {ps : List PV} {vs : List V} : FzL K H a vs → RVs K φ H ps vs → RV K φ H (.fl ps) (.ref a)
inductive RVs (K : PySem.W.Frag) (φ : List Addr) (H : Hp) : List PV → List V → Prop
  | nil : RVs K φ H [] []
  | cons {p : PV} {v : V} {ps : List PV} {vs : List V} : RV K φ H p v → RVs K φ H ps vs → RVs K φ H (p :: ps) (v :: vs)
end

/-- the pairs of a dict -/
inductive RKs (K : PySem.W.Frag) (φ : List Addr) (H : Hp) : List (PV × PV) → List (Key × V) → Prop
  | nil : RKs K φ H [] []
  | cons {p : PV} {k : Key} {x : PV} {v : V} {ps : List (PV × PV)} {vs : List (Key × V)} : keyOf p = some k → RV K φ H x v → RKs K φ H ps vs → RKs K φ H ((p, x) :: ps) ((k, v) :: vs)

/-- an object at its address -/
def RO (K : PySem.W.Frag) (φ : List Addr) (H : Hp) (a : Addr) : EO → Prop
  | .lst ps => ∃ vs, H a = some (.lst vs) ∧ RVs K φ H ps vs
  | .dict ps => ∃ kvs, H a = some (.dK kvs) ∧ RKs K φ H ps kvs
  | .fd ps => ∃ o kvs, H a = some (.frz o (.dK kvs)) ∧ RKs K φ H ps kvs
  | .iset xs => ∃ c, H a = some (.set (fun j => decide (j ∈ xs)) c)

structure Rep (K : PySem.W.Frag) (φ : List Addr) (H : Hp) (h : EH) : Prop where
  len : φ.length = h.length
  nd : φ.Nodup
  ob : ∀ (n : Nat) (a : Addr) (o : EO), φ[n]? = some a → h[n]? = some o → RO K φ H a o

/-- the slots -/
def RS (K : PySem.W.Frag) (φ : List Addr) (H : Hp) (se : Sg) (σ : St) : Prop :=
  se.length = σ.length ∧ ∀ (i : Nat) (p : PV), se[i]? = some (some p) → ∃ v, σ[i]? = some (some v) ∧ RV K φ H p v

/-- later: addresses come behind, what is not the evaluator's own is as it was -/
structure Ext (φ : List Addr) (H : Hp) (φ' : List Addr) (H' : Hp) : Prop where
  pre : ∃ ψ, φ' = φ ++ ψ
  old : ∀ a o, H a = some o → a ∉ φ → H' a = some o ∧ a ∉ φ'
  fz : ∀ a o u, H a = some (.frz o u) → H' a = some (.frz o u)

section
variable {K : PySem.W.Frag} {φ φ' φ'' : List Addr} {H H' H'' : Hp} {h h' : EH}
theorem Ext.refl (φ : List Addr) (H : Hp) : Ext φ H φ H := ⟨⟨[], by simp⟩, fun a o e n => ⟨e, n⟩, fun a o u e => e⟩
theorem Ext.trans (x : Ext φ H φ' H') (y : Ext φ' H' φ'' H'') : Ext φ H φ'' H'' := by
  obtain ⟨⟨ψ, e⟩, o, fz⟩ := x
  obtain ⟨⟨ψ', e'⟩, o', fz'⟩ := y
  refine ⟨⟨ψ ++ ψ', by rw [e', e, List.append_assoc]⟩, fun a u q n => ?_, fun a u v q => fz' _ _ _ (fz _ _ _ q)⟩
  obtain ⟨q1, n1⟩ := o a u q n
  exact o' a u q1 n1
theorem Ext.get (x : Ext φ H φ' H') {n : Nat} {a : Addr} (e : φ[n]? = some a) : φ'[n]? = some a := by
  obtain ⟨⟨ψ, rfl⟩, _, _⟩ := x
  have hl : n < φ.length := by
    rcases Nat.lt_or_ge n φ.length with q | q
    · exact q
    · rw [List.getElem?_eq_none q] at e; cases e
  rw [List.getElem?_append_left hl]; exact e
theorem Ext.new {p : Addr} {o : HO} (hp : H p = none) : Ext φ H (φ ++ [p]) (upd H p o) := by
  refine ⟨⟨[p], rfl⟩, fun a u q n => ?_, fun a o u q => by rw [upd_ne (by intro e; subst e; rw [hp] at q; cases q)]; exact q⟩
  have ne : a ≠ p := by intro e; subst e; rw [hp] at q; cases q
  refine ⟨by rw [upd_ne ne]; exact q, ?_⟩
  simp only [List.mem_append, List.mem_singleton, not_or]
  exact ⟨n, ne⟩
theorem Ext.put {p : Addr} {o : HO} (hp : H p = none) : Ext φ H φ (upd H p o) := by
  refine ⟨⟨[], by simp⟩, fun a u q n => ?_, fun a o u q => by rw [upd_ne (by intro e; subst e; rw [hp] at q; cases q)]; exact q⟩
  have ne : a ≠ p := by intro e; subst e; rw [hp] at q; cases q
  exact ⟨by rw [upd_ne ne]; exact q, n⟩
theorem Ext.set {p : Addr} {o o0 : HO} (hp : p ∈ φ) (a1 : H p = some o0) (nf : ∀ o u, o0 ≠ .frz o u := by intro _ _ z; cases z) : Ext φ H φ (upd H p o) := by
  refine ⟨⟨[], by simp⟩, fun a u q n => ?_, fun a o u q => by rw [upd_ne (by intro e; subst e; rw [a1] at q; cases q; exact nf _ _ rfl)]; exact q⟩
  have ne : a ≠ p := by intro e; subst e; exact n hp
  exact ⟨by rw [upd_ne ne]; exact q, n⟩

theorem Rep.notIn (r : Rep K φ H h) {a : Addr} {o : HO} (e : H a = some o) (n1 : ∀ xs, o ≠ .lst xs) (n2 : ∀ kvs, o ≠ .dK kvs) (n3 : ∀ b u, o ≠ .frz b u) (n4 : ∀ S c, o ≠ .set S c) : a ∉ φ := by
  intro hm
  obtain ⟨n, hn⟩ := List.mem_iff_getElem?.mp hm
  have hl : n < h.length := by
    rw [← r.len]
    rcases Nat.lt_or_ge n φ.length with q | q
    · exact q
    · rw [List.getElem?_eq_none q] at hn; cases hn
  have q := r.ob n a h[n] hn (by simp [hl])
  cases e2 : h[n] with
  | lst ps =>
    rw [e2] at q
    obtain ⟨vs, q, _⟩ := q
    rw [e] at q; cases q; exact n1 _ rfl
  | dict ps =>
    rw [e2] at q
    obtain ⟨vs, q, _⟩ := q
    rw [e] at q; cases q; exact n2 _ rfl
  | fd ps =>
    rw [e2] at q
    obtain ⟨_, vs, q, _⟩ := q
    rw [e] at q; cases q; exact n3 _ _ rfl
  | iset xs =>
    rw [e2] at q
    obtain ⟨c, q⟩ := q
    rw [e] at q; cases q; exact n4 _ _ rfl
/-- what values lean on: places, tuples, frozen things -/
structure Ext0 (φ : List Addr) (H : Hp) (φ' : List Addr) (H' : Hp) : Prop where
  pre : ∃ ψ, φ' = φ ++ ψ
  tup : ∀ a xs, H a = some (.tup xs) → H' a = some (.tup xs)
  frz : ∀ a o u, H a = some (.frz o u) → H' a = some (.frz o u)
theorem Ext.e0 (x : Ext φ H φ' H') (r : Rep K φ H h) : Ext0 φ H φ' H' :=
  ⟨x.pre, fun a xs e => (x.old _ _ e (r.notIn e (fun _ z => by cases z) (fun _ z => by cases z) (fun _ _ z => by cases z) (fun _ _ z => by cases z))).1, fun a o u e => x.fz _ _ _ e⟩
theorem SqT.ext {a : Addr} {vs : List V} (x : Ext0 φ H φ' H') (t : SqT K H a vs) : SqT K H' a vs := by
  rcases t with (e | ⟨o, e⟩) | t
  · exact .inl (.inl (x.tup _ _ e))
  · exact .inl (.inr ⟨o, x.frz _ _ _ e⟩)
  · exact .inr t
theorem FzL.ext {a : Addr} {vs : List V} (x : Ext0 φ H φ' H') (t : FzL K H a vs) : FzL K H' a vs := by
  rcases t with ⟨o, e⟩ | t
  · exact .inl ⟨o, x.frz _ _ _ e⟩
  · exact .inr t
theorem Ext0.get (x : Ext0 φ H φ' H') {n : Nat} {a : Addr} (e : φ[n]? = some a) : φ'[n]? = some a := by
  obtain ⟨⟨ψ, rfl⟩, _, _⟩ := x
  have hl : n < φ.length := by
    rcases Nat.lt_or_ge n φ.length with q | q
    · exact q
    · rw [List.getElem?_eq_none q] at e; cases e
  rw [List.getElem?_append_left hl]; exact e
mutual
theorem RV.ext (x : Ext0 φ H φ' H') : ∀ (p : PV) (v : V), RV K φ H p v → RV K φ' H' p v
  | .non, _, q => by cases q; exact .non
  | .bl _, _, q => by cases q; exact .bl _
  | .int _, _, q => by cases q; exact .int _
  | .str _, _, q => by cases q; exact .str _
  | .tup ps, _, q => by
    cases q with
    | tup t ts => exact .tup (SqT.ext x t) (RVs.ext x ps _ ts)
  | .ref n, _, q => by
    cases q with
    | ref e => exact .ref (x.get e)
  | .fl ps, _, q => by
    cases q with
    | fl t ts => exact .fl (FzL.ext x t) (RVs.ext x ps _ ts)
theorem RVs.ext (x : Ext0 φ H φ' H') : ∀ (ps : List PV) (vs : List V), RVs K φ H ps vs → RVs K φ' H' ps vs
  | [], _, q => by cases q; exact .nil
  | p :: ps, _, q => by
    cases q with
    | cons q1 q2 => exact .cons (RV.ext x p _ q1) (RVs.ext x ps _ q2)
end
theorem RKs.ext : ∀ {p : List (PV × PV)} {v : List (Key × V)}, RKs K φ H p v → Ext0 φ H φ' H' → RKs K φ' H' p v
  | _, _, .nil, _ => .nil
  | _, _, .cons e q t, x => .cons e (RV.ext x _ _ q) (t.ext x)
theorem RS.ext {se : Sg} {σ : St} (q : RS K φ H se σ) (x : Ext0 φ H φ' H') : RS K φ' H' se σ :=
  ⟨q.1, fun i p e => let ⟨v, e1, e2⟩ := q.2 i p e; ⟨v, e1, RV.ext x _ _ e2⟩⟩
theorem RV.mono {p : PV} {v : V} (q : RV K φ H p v) (r : Rep K φ H h) (x : Ext φ H φ' H') : RV K φ' H' p v := RV.ext (x.e0 r) p v q
theorem RVs.mono {p : List PV} {v : List V} (q : RVs K φ H p v) (r : Rep K φ H h) (x : Ext φ H φ' H') : RVs K φ' H' p v := RVs.ext (x.e0 r) p v q
theorem RKs.mono : ∀ {p : List (PV × PV)} {v : List (Key × V)}, RKs K φ H p v → Rep K φ H h → Ext φ H φ' H' → RKs K φ' H' p v
  | _, _, .nil, _, _ => .nil
  | _, _, .cons e q t, r, x => .cons e (q.mono r x) (t.mono r x)
theorem RS.mono {se : Sg} {σ : St} (q : RS K φ H se σ) (r : Rep K φ H h) (x : Ext φ H φ' H') : RS K φ' H' se σ :=
  ⟨q.1, fun i p e => let ⟨v, e1, e2⟩ := q.2 i p e; ⟨v, e1, e2.mono r x⟩⟩
theorem RS.set {se : Sg} {σ : St} {i : Nat} {p : PV} {v : V} (q : RS K φ H se σ) (r : RV K φ H p v) : RS K φ H (se.set i (some p)) (σ.set i (some v)) := by
  refine ⟨by rw [List.length_set, List.length_set]; exact q.1, fun j z e => ?_⟩
  by_cases hj : i = j
  · subst hj
    by_cases hl : i < se.length
    · rw [List.getElem?_set_self hl] at e
      cases e
      exact ⟨v, List.getElem?_set_self (by rw [← q.1]; exact hl), r⟩
    · rw [List.getElem?_eq_none (by simpa using hl)] at e; cases e
  · rw [List.getElem?_set_ne hj] at e
    obtain ⟨v', e1, e2⟩ := q.2 j z e
    exact ⟨v', by rw [List.getElem?_set_ne hj]; exact e1, e2⟩
theorem RVs.length {ps : List PV} {vs : List V} (q : RVs K φ H ps vs) : ps.length = vs.length := by
  induction ps generalizing vs with
  | nil => cases q; rfl
  | cons p ps ih => cases q with | cons q1 q2 => rw [List.length_cons, List.length_cons, ih q2]
theorem RVs.get {ps : List PV} {vs : List V} (q : RVs K φ H ps vs) {i : Nat} {p : PV} (e : ps[i]? = some p) : ∃ v, vs[i]? = some v ∧ RV K φ H p v := by
  induction ps generalizing vs i with
  | nil => simp at e
  | cons p ps ih =>
    cases q with
    | cons q1 q2 =>
      cases i with
      | zero => simp at e; subst e; exact ⟨_, by simp, q1⟩
      | succ i =>
        obtain ⟨v, e1, e2⟩ := ih q2 (i := i) (by simpa using e)
        exact ⟨v, by simpa using e1, e2⟩
theorem RVs.append {ps qs : List PV} {vs ws : List V} (q : RVs K φ H ps vs) (t : RVs K φ H qs ws) : RVs K φ H (ps ++ qs) (vs ++ ws) := by
  induction ps generalizing vs with
  | nil => cases q; exact t
  | cons p ps ih => cases q with | cons q1 q2 => exact .cons q1 (ih q2)
theorem RVs.take {ps : List PV} {vs : List V} (n : Nat) (q : RVs K φ H ps vs) : RVs K φ H (ps.take n) (vs.take n) := by
  induction ps generalizing vs n with
  | nil => cases q; simpa using RVs.nil
  | cons p ps ih =>
    cases q with
    | cons q1 q2 =>
      cases n with
      | zero => exact .nil
      | succ n => exact .cons q1 (ih n q2)
theorem RVs.drop {ps : List PV} {vs : List V} (n : Nat) (q : RVs K φ H ps vs) : RVs K φ H (ps.drop n) (vs.drop n) := by
  induction ps generalizing vs n with
  | nil => cases q; simpa using RVs.nil
  | cons p ps ih =>
    cases q with
    | cons q1 q2 =>
      cases n with
      | zero => exact .cons q1 q2
      | succ n => exact ih n q2
theorem RVs.set {ps : List PV} {vs : List V} {p : PV} {v : V} (i : Nat) (q : RVs K φ H ps vs) (r : RV K φ H p v) : RVs K φ H (ps.set i p) (vs.set i v) := by
  induction ps generalizing vs i with
  | nil => cases q; exact .nil
  | cons p ps ih =>
    cases q with
    | cons q1 q2 =>
      cases i with
      | zero => exact .cons r q2
      | succ i => exact .cons q1 (ih i q2)
theorem RVs.rev {ps : List PV} {vs : List V} (q : RVs K φ H ps vs) : RVs K φ H ps.reverse vs.reverse := by
  induction ps generalizing vs with
  | nil => cases q; exact .nil
  | cons p ps ih =>
    cases q with
    | cons q1 q2 =>
      rw [List.reverse_cons, List.reverse_cons]
      exact (ih q2).append (.cons q1 .nil)
theorem RVs.rep {ps : List PV} {vs : List V} (q : RVs K φ H ps vs) : ∀ n : Nat, RVs K φ H (List.replicate n ps).flatten (List.replicate n vs).flatten
  | 0 => .nil
  | n + 1 => by
    rw [List.replicate_succ, List.replicate_succ, List.flatten_cons, List.flatten_cons]
    exact q.append (q.rep n)
theorem RVs.inj_nil {vs : List V} (q : RVs K φ H [] vs) : vs = [] := by cases q; rfl
theorem RVs.isEmpty {ps : List PV} {vs : List V} (q : RVs K φ H ps vs) : ps.isEmpty = vs.isEmpty := by cases q <;> rfl
theorem RKs.length {ps : List (PV × PV)} {vs : List (Key × V)} (q : RKs K φ H ps vs) : ps.length = vs.length := by
  induction q with
  | nil => rfl
  | cons _ _ _ ih => rw [List.length_cons, List.length_cons, ih]
theorem RKs.isEmpty {ps : List (PV × PV)} {vs : List (Key × V)} (q : RKs K φ H ps vs) : ps.isEmpty = vs.isEmpty := by cases q <;> rfl

theorem nd_inj {α : Type} {l : List α} (nd : l.Nodup) {n m : Nat} {a : α} (e : l[n]? = some a) (e' : l[m]? = some a) : n = m := by
  induction l generalizing n m with
  | nil => simp at e
  | cons x l ih =>
    obtain ⟨n1, n2⟩ := List.nodup_cons.mp nd
    cases n with
    | zero =>
      cases m with
      | zero => rfl
      | succ m =>
        simp at e e'; subst e
        exact absurd (List.mem_iff_getElem?.mpr ⟨m, e'⟩) n1
    | succ n =>
      cases m with
      | zero =>
        simp at e e'; subst e'
        exact absurd (List.mem_iff_getElem?.mpr ⟨n, e⟩) n1
      | succ m => rw [ih n2 (n := n) (m := m) (by simpa using e) (by simpa using e')]
/-- the object at n changed -/
theorem Rep.chg {n : Nat} {a : Addr} {ob : HO} {o : EO} (r : Rep K φ H h) (e : φ[n]? = some a) (x : Ext φ H φ (upd H a ob)) (hn : RO K φ (upd H a ob) a o) : Rep K φ (upd H a ob) (h.set n o) := by
  refine ⟨by rw [List.length_set]; exact r.len, r.nd, fun m b u e1 e2 => ?_⟩
  by_cases hm : n = m
  · subst hm
    rw [e] at e1; cases e1
    by_cases hl : n < h.length
    · rw [List.getElem?_set_self hl] at e2; cases e2; exact hn
    · rw [List.getElem?_eq_none (by simpa using hl)] at e2; cases e2
  · rw [List.getElem?_set_ne hm] at e2
    have ne : b ≠ a := by
      intro z; subst z
      exact hm (nd_inj r.nd e e1)
    have q := r.ob m b u e1 e2
    cases u with
    | lst ps =>
      obtain ⟨vs, q1, q2⟩ := q
      exact ⟨vs, by rw [upd_ne ne]; exact q1, q2.mono r x⟩
    | dict ps =>
      obtain ⟨vs, q1, q2⟩ := q
      exact ⟨vs, by rw [upd_ne ne]; exact q1, q2.mono r x⟩
    | fd ps =>
      obtain ⟨w, vs, q1, q2⟩ := q
      exact ⟨w, vs, by rw [upd_ne ne]; exact q1, q2.mono r x⟩
    | iset xs =>
      obtain ⟨c, q1⟩ := q
      exact ⟨c, by rw [upd_ne ne]; exact q1⟩
/-- a new object -/
theorem Rep.new {p : Addr} {ob : HO} {o : EO} (r : Rep K φ H h) (hp : H p = none) (hn : RO K (φ ++ [p]) (upd H p ob) p o) : Rep K (φ ++ [p]) (upd H p ob) (h ++ [o]) := by
  have x : Ext φ H (φ ++ [p]) (upd H p ob) := Ext.new hp
  have hin : ∀ b ∈ φ, b ≠ p := fun b hb z => by
    subst z
    obtain ⟨n, hn⟩ := List.mem_iff_getElem?.mp hb
    have hl : n < h.length := by
      rw [← r.len]
      rcases Nat.lt_or_ge n φ.length with q | q
      · exact q
      · rw [List.getElem?_eq_none q] at hn; cases hn
    have q := r.ob n b h[n] hn (by simp [hl])
    cases e2 : h[n] with
    | lst ps => rw [e2] at q; obtain ⟨vs, q, _⟩ := q; rw [hp] at q; cases q
    | dict ps => rw [e2] at q; obtain ⟨vs, q, _⟩ := q; rw [hp] at q; cases q
    | fd ps => rw [e2] at q; obtain ⟨_, vs, q, _⟩ := q; rw [hp] at q; cases q
    | iset ps => rw [e2] at q; obtain ⟨_, q⟩ := q; rw [hp] at q; cases q
  refine ⟨by rw [List.length_append, List.length_append, r.len]; rfl, ?_, fun m b u e1 e2 => ?_⟩
  · rw [List.nodup_append]
    exact ⟨r.nd, by simp, fun a ha b hb => by rw [List.mem_singleton] at hb; subst hb; exact hin a ha⟩
  · by_cases hm : m < φ.length
    · rw [List.getElem?_append_left hm] at e1
      rw [List.getElem?_append_left (by rw [← r.len]; exact hm)] at e2
      have ne : b ≠ p := hin b (List.mem_iff_getElem?.mpr ⟨m, e1⟩)
      have q := r.ob m b u e1 e2
      cases u with
      | lst ps =>
        obtain ⟨vs, q1, q2⟩ := q
        exact ⟨vs, by rw [upd_ne ne]; exact q1, q2.mono r x⟩
      | dict ps =>
        obtain ⟨vs, q1, q2⟩ := q
        exact ⟨vs, by rw [upd_ne ne]; exact q1, q2.mono r x⟩
      | fd ps =>
        obtain ⟨w, vs, q1, q2⟩ := q
        exact ⟨w, vs, by rw [upd_ne ne]; exact q1, q2.mono r x⟩
      | iset xs =>
        obtain ⟨c, q1⟩ := q
        exact ⟨c, by rw [upd_ne ne]; exact q1⟩
    · have hm' : φ.length ≤ m := Nat.le_of_not_lt hm
      rw [List.getElem?_append_right hm'] at e1
      rw [List.getElem?_append_right (by rw [← r.len]; exact hm')] at e2
      rw [← r.len] at e2
      cases hk : m - φ.length with
      | zero => rw [hk] at e1 e2; simp at e1 e2; subst e1; subst e2; exact hn
      | succ k => rw [hk] at e1; simp at e1
theorem Rep.free {p : Addr} (r : Rep K φ H h) (hp : H p = none) : p ∉ φ := by
  intro hm
  obtain ⟨n, hn⟩ := List.mem_iff_getElem?.mp hm
  have hl : n < h.length := by
    rw [← r.len]
    rcases Nat.lt_or_ge n φ.length with q | q
    · exact q
    · rw [List.getElem?_eq_none q] at hn; cases hn
  have q := r.ob n p h[n] hn (by simp [hl])
  cases e2 : h[n] with
  | lst ps => rw [e2] at q; obtain ⟨vs, q, _⟩ := q; rw [hp] at q; cases q
  | dict ps => rw [e2] at q; obtain ⟨vs, q, _⟩ := q; rw [hp] at q; cases q
  | fd ps => rw [e2] at q; obtain ⟨_, vs, q, _⟩ := q; rw [hp] at q; cases q
  | iset ps => rw [e2] at q; obtain ⟨_, q⟩ := q; rw [hp] at q; cases q
/-- another object, not the evaluator's, changes -/
theorem Ext0.other {p : Addr} {ob : HO} (ht : ∀ xs, H p ≠ some (.tup xs)) (hf : ∀ o u, H p ≠ some (.frz o u)) : Ext0 φ H φ (upd H p ob) := by
  refine ⟨⟨[], by simp⟩, fun a xs e => ?_, fun a o u e => ?_⟩
  · have ne : a ≠ p := by intro z; subst z; exact ht _ e
    rw [upd_ne ne]; exact e
  · have ne : a ≠ p := by intro z; subst z; exact hf _ _ e
    rw [upd_ne ne]; exact e
theorem Rep.other {p : Addr} {ob : HO} (r : Rep K φ H h) (hp : p ∉ φ) (ht : ∀ xs, H p ≠ some (.tup xs)) (hf : ∀ o u, H p ≠ some (.frz o u)) : Rep K φ (upd H p ob) h := by
  have x : Ext0 φ H φ (L2.upd H p ob) := Ext0.other ht hf
  refine ⟨r.len, r.nd, fun m b u e1 e2 => ?_⟩
  have q := r.ob m b u e1 e2
  have ne : b ≠ p := by intro z; subst z; exact hp (List.mem_iff_getElem?.mpr ⟨m, e1⟩)
  cases u with
  | lst ps =>
    obtain ⟨vs, q1, q2⟩ := q
    exact ⟨vs, by rw [upd_ne ne]; exact q1, RVs.ext x _ _ q2⟩
  | dict ps =>
    obtain ⟨vs, q1, q2⟩ := q
    exact ⟨vs, by rw [upd_ne ne]; exact q1, q2.ext x⟩
  | fd ps =>
    obtain ⟨w, vs, q1, q2⟩ := q
    exact ⟨w, vs, by rw [upd_ne ne]; exact q1, q2.ext x⟩
  | iset xs =>
    obtain ⟨c, q1⟩ := q
    exact ⟨c, by rw [upd_ne ne]; exact q1⟩
/-- an object that stood beside becomes the evaluator's -/
theorem Rep.newAt {p : Addr} {o : EO} (r : Rep K φ H h) (hp : p ∉ φ) (hn : RO K (φ ++ [p]) H p o) : Rep K (φ ++ [p]) H (h ++ [o]) := by
  have x : Ext0 φ H (φ ++ [p]) H := ⟨⟨[p], rfl⟩, fun _ _ e => e, fun _ _ _ e => e⟩
  refine ⟨by rw [List.length_append, List.length_append, r.len]; rfl, ?_, fun m b u e1 e2 => ?_⟩
  · rw [List.nodup_append]
    exact ⟨r.nd, by simp, fun a ha b hb => by rw [List.mem_singleton] at hb; subst hb; intro z; subst z; exact hp ha⟩
  · by_cases hm : m < φ.length
    · rw [List.getElem?_append_left hm] at e1
      rw [List.getElem?_append_left (by rw [← r.len]; exact hm)] at e2
      have q := r.ob m b u e1 e2
      cases u with
      | lst ps =>
        obtain ⟨vs, q1, q2⟩ := q
        exact ⟨vs, q1, RVs.ext x _ _ q2⟩
      | dict ps =>
        obtain ⟨vs, q1, q2⟩ := q
        exact ⟨vs, q1, q2.ext x⟩
      | fd ps =>
        obtain ⟨w, vs, q1, q2⟩ := q
        exact ⟨w, vs, q1, q2.ext x⟩
      | iset xs => exact q
    · have hm' : φ.length ≤ m := Nat.le_of_not_lt hm
      rw [List.getElem?_append_right hm'] at e1
      rw [List.getElem?_append_right (by rw [← r.len]; exact hm')] at e2
      rw [← r.len] at e2
      cases hk : m - φ.length with
      | zero => rw [hk] at e1 e2; simp at e1 e2; subst e1; subst e2; exact hn
      | succ k => rw [hk] at e1; simp at e1
/-- something else is laid -/
theorem Rep.put {p : Addr} {ob : HO} (r : Rep K φ H h) (hp : H p = none) : Rep K φ (upd H p ob) h := by
  have x : Ext φ H φ (upd H p ob) := Ext.put hp
  refine ⟨r.len, r.nd, fun m b u e1 e2 => ?_⟩
  have q := r.ob m b u e1 e2
  cases u with
  | lst ps =>
    obtain ⟨vs, q1, q2⟩ := q
    have ne : b ≠ p := by intro z; subst z; rw [hp] at q1; cases q1
    exact ⟨vs, by rw [upd_ne ne]; exact q1, q2.mono r x⟩
  | dict ps =>
    obtain ⟨vs, q1, q2⟩ := q
    have ne : b ≠ p := by intro z; subst z; rw [hp] at q1; cases q1
    exact ⟨vs, by rw [upd_ne ne]; exact q1, q2.mono r x⟩
  | fd ps =>
    obtain ⟨w, vs, q1, q2⟩ := q
    have ne : b ≠ p := by intro z; subst z; rw [hp] at q1; cases q1
    exact ⟨w, vs, by rw [upd_ne ne]; exact q1, q2.mono r x⟩
  | iset xs =>
    obtain ⟨c, q1⟩ := q
    have ne : b ≠ p := by intro z; subst z; rw [hp] at q1; cases q1
    exact ⟨c, by rw [upd_ne ne]; exact q1⟩
end
end EV

set_option Elab.async false
set_option linter.all false
set_option maxRecDepth 100000
set_option maxHeartbeats 4000000
/-! EV2: the code that is evaluated (slots in place of names, no places of the text), and the evaluator. -/
namespace EV
open PySem PySem.Spec L2

def mapO {α β : Type} (f : α → Option β) : List α → Option (List β)
  | [] => some []
  | x :: xs => match f x with
    | none => none
    | some y => match mapO f xs with
      | none => none
      | some ys => some (y :: ys)

/-- a value as data of any depth -/
def toD (h : EH) : Nat → PV → Option PyData
  | 0, _ => none
  | _ + 1, .non => some .none
  | _ + 1, .bl b => some (.bool b)
  | _ + 1, .int i => some (.int i)
  | _ + 1, .str x => some (.str x)
  | k + 1, .tup xs => (mapO (toD h k) xs).map .tuple
  | k + 1, .fl xs => (mapO (toD h k) xs).map .list
  | k + 1, .ref n => match h[n]? with
    | some (.lst xs) => (mapO (toD h k) xs).map .list
    | _ => none

/-- what repr shows: dicts without a pair, too; a list that is never written is not shown so -/
def toR (h : EH) : Nat → PV → Option PyData
  | 0, _ => none
  | _ + 1, .non => some .none
  | _ + 1, .bl b => some (.bool b)
  | _ + 1, .int i => some (.int i)
  | _ + 1, .str x => some (.str x)
  | k + 1, .tup xs => (mapO (toR h k) xs).map .tuple
  | _ + 1, .fl _ => none
  | k + 1, .ref n => match h[n]? with
    | some (.lst xs) => (mapO (toR h k) xs).map .list
    | some (.dict []) => some (.dict [])
    | _ => none

def isLT (h : EH) : PV → Option (List PV)
  | .tup xs => some xs
  | .fl xs => some xs
  | .ref n => match h[n]? with
    | some (.lst xs) => some xs
    | _ => none
  | _ => none
def isL (h : EH) : PV → Option (List PV)
  | .fl xs => some xs
  | .ref n => match h[n]? with
    | some (.lst xs) => some xs
    | _ => none
  | _ => none
def isDc (h : EH) : PV → Option (List (PV × PV))
  | .ref n => match h[n]? with
    | some (.dict kvs) => some kvs
    | _ => none
  | _ => none

def dget : List (PV × PV) → PV → Option PV
  | [], _ => none
  | (a, x) :: r, k => if a = k then some x else dget r k
def dput (kvs : List (PV × PV)) (k v : PV) : List (PV × PV) :=
  if (dget kvs k).isSome then kvs.map fun p => if p.1 = k then (p.1, v) else p else kvs ++ [(k, v)]
def ddel (kvs : List (PV × PV)) (k : PV) : List (PV × PV) := kvs.filter fun p => decide (p.1 ≠ k)
def dmerge (kvs : List (PV × PV)) : List (PV × PV) → List (PV × PV)
  | [] => kvs
  | (k, v) :: r => dmerge (dput kvs k v) r

abbrev Rt := Option (PV × EH)
def ok (v : PV) (h : EH) : Rt := some (v, h)
def new (o : EO) (h : EH) : Rt := some (.ref h.length, h ++ [o])
def newL (xs : List PV) (h : EH) : Rt := if xs.length ≤ sizeLine then new (.lst xs) h else none
def newT (xs : List PV) (h : EH) : Rt := if xs.length ≤ sizeLine then ok (.tup xs) h else none

def truth (h : EH) : PV → Option Bool
  | .non => some false
  | .bl b => some b
  | .int i => some (i != 0)
  | .str x => if x.length ≤ sizeLine then some ((x.length : Int) != 0) else none
  | .tup xs => some (!xs.isEmpty)
  | .fl xs => some (!xs.isEmpty)
  | .ref n => match h[n]? with
    | some (.lst xs) => some (!xs.isEmpty)
    | some (.dict kvs) => some (!kvs.isEmpty)
    | some (.fd _) => none
    | some (.iset _) => none
    | none => none

inductive BOp where
  | add | sub | mul | fdiv | mod | pow | shl | shr | band | bor | bxor
  deriving DecidableEq
inductive COp where
  | eq | ne | lt | le | gt | ge | isIn | notIn | is | isNot
  deriving DecidableEq

def opB : BOp → PV → PV → EH → Rt
  | .add, .int i, .int j, h => ok (.int (i + j)) h
  | .add, .str x, .str y, h => if x.length + y.length ≤ sizeLine then ok (.str (x ++ y)) h else none
  | .add, .tup xs, .tup ys, h => newT (xs ++ ys) h
  | .add, .ref n, .ref m, h => match h[n]?, h[m]? with
    | some (.lst xs), some (.lst ys) => newL (xs ++ ys) h
    | _, _ => none
  | .sub, .int i, .int j, h => ok (.int (i - j)) h
  | .mul, .int i, .int j, h => if (-(2 ^ 64) < i ∧ i < 2 ^ 64) ∨ (-(2 ^ 64) < j ∧ j < 2 ^ 64) then ok (.int (i * j)) h else if i.natAbs.log2 + j.natAbs.log2 < 1000000 then ok (.int (i * j)) h else none
  | .mul, .ref n, .int k, h => match h[n]? with
    | some (.lst xs) => if -(2 ^ 63) ≤ k ∧ k < 2 ^ 63 ∧ xs.length * k.toNat ≤ sizeLine then newL (List.replicate k.toNat xs).flatten h else none
    | _ => none
  | .mul, .tup xs, .int k, h => if -1000 ≤ k ∧ k ≤ 1000 ∧ xs.length ≤ 1000 then newT (List.replicate k.toNat xs).flatten h else none
  | .fdiv, .int i, .int j, h => if 0 < j ∧ j.natAbs.log2 < 9000 then ok (.int (i / j)) h else none
  | .mod, .int i, .int j, h => if 0 < j then ok (.int (i % j)) h else none
  | .pow, .int i, .int j, h => if 0 ≤ j ∧ j ≤ 1000000 ∧ i.natAbs < 2 ^ 64 then ok (.int (i ^ j.toNat)) h else none
  | .shl, .int i, .int j, h => if 0 ≤ j ∧ j ≤ 1000000 ∧ i.natAbs < 2 ^ 64 then ok (.int (i * 2 ^ j.toNat)) h else none
  | .shr, .int i, .int j, h => if 0 ≤ j then ok (.int (i / 2 ^ j.toNat)) h else none
  | .band, .int i, .int j, h => ok (.int (Builtin.bitAnd i j)) h
  | .bor, .int i, .int j, h => ok (.int (Builtin.bitOr i j)) h
  | .bxor, .int i, .int j, h => ok (.int (Builtin.bitXor i j)) h
  | _, _, _, _ => none

/-- x op= y -/
def opA : BOp → PV → PV → EH → Rt
  | .add, .int i, .int j, h => ok (.int (i + j)) h
  | .add, .str x, .str y, h => if x.length + y.length ≤ sizeLine then ok (.str (x ++ y)) h else none
  | .sub, .int i, .int j, h => ok (.int (i - j)) h
  | _, _, _, _ => none
/-- how deep data may be that is compared or shown -/
def DF : Nat := 66
def eqD (h : EH) (x y : PV) : Option Bool :=
  match toD h DF x, toD h DF y with
  | some d, some e => if SeqAt.shaped d = true ∧ SeqAt.shaped e = true then some (PyData.eqv d e) else none
  | _, _ => none
def inD (h : EH) (x : PV) (ys : List PV) : Option Bool :=
  match toD h DF x, mapO (toD h DF) ys with
  | some d, some ds => if SeqAt.shaped d = true ∧ SeqAt.shaped (.list ds) = true then some (ds.any fun z => PyData.eqv z d) else none
  | _, _ => none
def isIn (h : EH) (x : PV) : PV → Option Bool
  | .str y => match x with
    | .str x => some (!(Builtin.Str.occurrences y x 0 y.length 1).isEmpty)
    | _ => none
  | .tup ys => inD h x ys
  | .fl ys => inD h x ys
  | .ref n => match h[n]? with
    | some (.lst ys) => inD h x ys
    | some (.dict kvs) => match keyOf x with
      | some _ => some (dget kvs x).isSome
      | none => none
    | some (.fd kvs) => match keyOf x with
      | some _ => some (dget kvs x).isSome
      | none => none
    | some (.iset xs) => match x with
      | .int i => some (decide (i ∈ xs))
      | _ => none
    | none => none
  | _ => none
/-- whether a value is None, True, False: only these are asked -/
def isAt : PV → PV → Option Bool
  | .non, .non => some true
  | _, .non => some false
  | .bl a, .bl b => some (decide (a = b))
  | _, _ => none
def opC : COp → PV → PV → EH → Option Bool
  | .eq, x, y, h => eqD h x y
  | .ne, x, y, h => (eqD h x y).map (!·)
  | .lt, .int i, .int j, _ => some (decide (i < j))
  | .le, .int i, .int j, _ => some (decide (i ≤ j))
  | .gt, .int i, .int j, _ => some (decide (j < i))
  | .ge, .int i, .int j, _ => some (decide (j ≤ i))
  | .isIn, x, y, h => isIn h x y
  | .notIn, x, y, h => (isIn h x y).map (!·)
  | .is, x, y, _ => isAt x y
  | .isNot, x, y, _ => (isAt x y).map (!·)
  | _, _, _, _ => none

def seqAt (xs : List PV) (i : Int) : Option PV := if i < 0 then (if 0 ≤ i + xs.length then xs[(i + xs.length).toNat]? else none) else xs[i.toNat]?
def opIx : PV → PV → EH → Option PV
  | .tup xs, .int i, _ => seqAt xs i
  | .fl xs, .int i, _ => seqAt xs i
  | .str z, .int i, _ => if z.length ≤ sizeLine then (if i < 0 then (if 0 ≤ i + z.length then (z.cps.toList[(i + z.length).toNat]?).map fun c => .str ⟨#[c]⟩ else none) else (z.cps.toList[i.toNat]?).map fun c => .str ⟨#[c]⟩) else none
  | .ref n, y, h => match h[n]? with
    | some (.lst xs) => match y with
      | .int i => seqAt xs i
      | _ => none
    | some (.dict kvs) => match keyOf y with
      | some _ => dget kvs y
      | none => none
    | some (.fd kvs) => match keyOf y with
      | some _ => dget kvs y
      | none => none
    | some (.iset _) => none
    | none => none
  | _, _, _ => none
/-- o[i] where o is stored into behind -/
def opGx (x y : PV) (h : EH) : Option PV := match x with
  | .ref n => opIx (.ref n) y h
  | _ => none
/-- a slice's part: told or not -/
def partOf : Bool → PV → Option (Option Int)
  | false, .non => some none
  | true, .int i => some (some i)
  | _, _ => none
def cutP (xs : List PV) (lo hi : Option Int) : List PV := (xs.drop (HT.sIx xs.length 0 lo)).take (HT.sIx xs.length xs.length hi - HT.sIx xs.length 0 lo)
def opSl (x : PV) (lo hi : Option Int) (h : EH) : Rt :=
  match x with
  | .tup xs => ok (.tup (cutP xs lo hi)) h
  | .fl xs => new (.lst (cutP xs lo hi)) h
  | .ref n => match h[n]? with
    | some (.lst xs) => new (.lst (cutP xs lo hi)) h
    | _ => none
  | _ => none
def opRev (x : PV) (h : EH) : Rt :=
  match x with
  | .tup xs => ok (.tup xs.reverse) h
  | x => match isL h x with
    | some xs => new (.lst xs.reverse) h
    | none => none
/-- o[i] = v -/
def setIx (o i v : PV) (h : EH) : Option EH :=
  match o with
  | .ref n => match h[n]? with
    | some (.lst xs) => match i with
      | .int k => if k < 0 then (if 0 ≤ k + xs.length then some (h.set n (.lst (xs.set (k + xs.length).toNat v))) else none) else if k < xs.length then some (h.set n (.lst (xs.set k.toNat v))) else none
      | _ => none
    | some (.dict kvs) => match keyOf i with
      | some _ => if kvs.length < sizeLine then some (h.set n (.dict (dput kvs i v))) else none
      | none => none
    | some (.fd _) => none
    | some (.iset _) => none
    | none => none
  | _ => none

def intsOf : List PV → Option (List Int) := mapO fun
  | .int i => some i
  | _ => none
def strsOf : List PV → Option (List Str) := mapO fun
  | .str i => some i
  | _ => none
def blsOf : List PV → Option (List Bool) := mapO fun
  | .bl i => some i
  | _ => none
def maxI : Int → List Int → Int
  | m, [] => m
  | m, x :: xs => maxI (if m < x then x else m) xs
def minI : Int → List Int → Int
  | m, [] => m
  | m, x :: xs => minI (if x < m then x else m) xs

inductive Bi where
  | len | abs | int | max | min | tuple | list | repr | sorted | sum | any | all | str | dct | set
  deriving DecidableEq
/-- pairs, each a tuple -/
def pairsOf : List PV → Option (List (PV × PV))
  | [] => some []
  | .tup [k, v] :: r => match keyOf k, pairsOf r with
    | some _, some q => some ((k, v) :: q)
    | _, _ => none
  | _ => none
/-- data by which sorted() sorts: tuples that begin alike -/
def encD (h : EH) (p : PV) : PyData := (toD h DF p).getD .none
def isTupD : PyData → Bool
  | .tuple (_ :: _) => true
  | _ => false
def sortD (ds : List PyData) : Bool := (ds.all fun d => ds.all fun d' => PySem.W.alike d d') && (ds.all isTupD) && (ds.all fun d => decide (d.depth ≤ 60))
def opBi : Bi → List PV → EH → Rt
  | .len, [.str z], h => if z.length ≤ sizeLine then ok (.int z.length) h else none
  | .len, [x], h => match isLT h x with
    | some xs => ok (.int xs.length) h
    | none => match isDc h x with
      | some kvs => ok (.int kvs.length) h
      | none => none
  | .abs, [.int i], h => ok (.int (if i < 0 then -i else i)) h
  | .int, [.int i], h => ok (.int i) h
  | .int, [.bl b], h => ok (.int (if b then 1 else 0)) h
  | .max, [.int i, .int j], h => ok (.int (if j > i then j else i)) h
  | .min, [.int i, .int j], h => ok (.int (if j < i then j else i)) h
  | .max, [x], h => match isLT h x with
    | some xs => match intsOf xs with
      | some (n :: ns) => ok (.int (maxI n ns)) h
      | _ => none
    | none => none
  | .min, [x], h => match isLT h x with
    | some xs => match intsOf xs with
      | some (n :: ns) => ok (.int (minI n ns)) h
      | _ => none
    | none => none
  | .tuple, [.tup xs], h => ok (.tup xs) h
  | .tuple, [x], h => match isL h x with
    | some xs => ok (.tup xs) h
    | none => none
  | .list, [x], h => match isLT h x with
    | some xs => new (.lst xs) h
    | none => match isDc h x with
      | some kvs => new (.lst (kvs.map (·.1))) h
      | none => none
  | .repr, [x], h => match toD h DF x with
    | some d => if d.showable = true ∧ d.shown.length ≤ sizeLine ∧ d.depth ≤ 66 then ok (.str d.shown) h else none
    | none => match toR h DF x with
      | some d => if d.showable = true ∧ d.shown.length ≤ sizeLine ∧ d.depth ≤ 66 then ok (.str d.shown) h else none
      | none => none
  | .sorted, [x], h => match isL h x with
    | some xs => match intsOf xs with
      | some ns => new (.lst ((ns.mergeSort fun a b => decide (a ≤ b)).map PV.int)) h
      | none => match mapO (toD h DF) xs with
        | some ds => if sortD ds = true then new (.lst (xs.mergeSort (PySem.W.dataLe false (encD h)))) h else none
        | none => none
    | none => none
  | .sum, [x], h => match isL h x with
    | some xs => match intsOf xs with
      | some ns => ok (.int ns.sum) h
      | none => none
    | none => none
  | .any, [x], h => match isL h x with
    | some xs => match blsOf xs with
      | some bs => ok (.bl (bs.any id)) h
      | none => none
    | none => none
  | .all, [x], h => match isL h x with
    | some xs => match blsOf xs with
      | some bs => ok (.bl (bs.all id)) h
      | none => none
    | none => none
  | .str, [.int i], h => if i.natAbs.log2 < 1920 then ok (.str (toString i)) h else none
  | .set, [x], h => match isLT h x with
    | some xs => match intsOf xs with
      | some ns => if ns.length ≤ 1000 then new (.iset ns) h else none
      | none => none
    | none => none
  | .dct, [x], h => match isL h x with
    | some xs => match pairsOf xs with
      | some kvs => new (.dict (dmerge [] kvs)) h
      | none => none
    | none => none
  | _, _, _ => none
/-- the classes that are asked for -/
inductive Ty where
  | int | bool | str | tup | lst | dct
  deriving DecidableEq
/-- whether a value is an instance of a class -/
def isTy (h : EH) (t : Ty) : PV → Option Bool
  | .non => some false
  | .bl _ => some (decide (t = .bool) || decide (t = .int))
  | .int _ => some (decide (t = .int))
  | .str _ => some (decide (t = .str))
  | .tup _ => some (decide (t = .tup))
  | .fl _ => some (decide (t = .lst))
  | .ref n => match h[n]? with
    | some (.lst _) => some (decide (t = .lst))
    | some (.dict _) => some (decide (t = .dct))
    | some (.fd _) => some (decide (t = .dct))
    | some (.iset _) => none
    | none => none

inductive Me where
  | append | pop | popAt | extend | index | get1 | get2 | dpop1 | dpop2 | dsetd
  deriving DecidableEq
def idxD (d : PyData) : List PyData → Nat → Option Nat
  | [], _ => none
  | z :: zs, k => if PyData.eqv z d = true then some k else idxD d zs (k + 1)
def opMe : Me → PV → List PV → EH → Rt
  | .append, .ref n, [v], h => match h[n]? with
    | some (.lst xs) => if xs.length < sizeLine then some (.non, h.set n (.lst (xs ++ [v]))) else none
    | _ => none
  | .extend, .ref n, [.ref m], h => match h[n]?, h[m]? with
    | some (.lst xs), some (.lst ys) => if xs.length + ys.length ≤ sizeLine then some (.non, h.set n (.lst (xs ++ ys))) else none
    | _, _ => none
  | .pop, .ref n, [], h => match h[n]? with
    | some (.lst xs) => match xs[xs.length - 1]? with
      | some y => some (y, h.set n (.lst xs.dropLast))
      | none => none
    | _ => none
  | .popAt, .ref n, [.int i], h => match h[n]? with
    | some (.lst xs) => if 0 ≤ i ∧ i < xs.length ∧ i < 2 ^ 63 then (match xs[i.toNat]? with
      | some y => some (y, h.set n (.lst (xs.eraseIdx i.toNat)))
      | none => none) else none
    | _ => none
  | .index, x, [y], h => match isL h x with
    | some xs => match toD h DF y, mapO (toD h DF) xs with
      | some d, some ds => if SeqAt.shaped (.list ds) = true ∧ SeqAt.shaped d = true then (idxD d ds 0).map fun (k : Nat) => (PV.int (k : Int), h) else none
      | _, _ => none
    | none => none
  | .get1, x, [k], h => match isDc h x, keyOf k with
    | some kvs, some _ => ok ((dget kvs k).getD .non) h
    | _, _ => none
  | .get2, x, [k, d], h => match isDc h x, keyOf k with
    | some kvs, some _ => ok ((dget kvs k).getD d) h
    | _, _ => none
  | .dpop1, .ref n, [k], h => match h[n]?, keyOf k with
    | some (.dict kvs), some _ => match dget kvs k with
      | some v => some (v, h.set n (.dict (ddel kvs k)))
      | none => none
    | _, _ => none
  | .dpop2, .ref n, [k, d], h => match h[n]?, keyOf k with
    | some (.dict kvs), some _ => match dget kvs k with
      | some v => some (v, h.set n (.dict (ddel kvs k)))
      | none => ok d h
    | _, _ => none
  | .dsetd, .ref n, [k, d], h => match h[n]?, keyOf k with
    | some (.dict kvs), some _ => if kvs.length < sizeLine then (match dget kvs k with
      | some v => ok v h
      | none => some (d, h.set n (.dict (dput kvs k d)))) else none
    | _, _ => none
  | _, _, _, _ => none

/-- a function that a module brings -/
inductive Fb where
  | lcm
  deriving DecidableEq
def opFb : Fb → List PV → EH → Rt
  | .lcm, [.int i, .int j], h => if i.natAbs ≤ 1000000 ∧ j.natAbs ≤ 1000000 then ok (.int ((Nat.lcm i.natAbs j.natAbs : Nat) : Int)) h else none
  | _, _, _ => none

/-- what the receiver must be -/
def meK (h : EH) (x : PV) : Me → Bool
  | .append | .pop | .popAt | .extend | .index => (isL h x).isSome
  | .get1 | .get2 | .dpop1 | .dpop2 | .dsetd => (isDc h x).isSome

/-- targets -/
inductive Tg where
  | nm (i : Nat)
  | tp (is : List Nat)
  deriving DecidableEq
def bindAll : List Nat → List PV → Sg → Option Sg
  | [], [], s => some s
  | i :: is, x :: xs, s => bindAll is xs (s.set i (some x))
  | _, _, _ => none
def bindT : Tg → PV → Sg → Option Sg
  | .nm i, x, s => some (s.set i (some x))
  | .tp is, .tup xs, s => bindAll is xs s
  | .tp _, _, _ => none

/-- what is taken apart: a tuple or a list -/
def unT (h : EH) : PV → Option (List PV)
  | .tup xs => some xs
  | .ref n => match h[n]? with
    | some (.lst xs) => some xs
    | _ => none
  | _ => none

/-- what a loop walks: items that are fixed, a list that may change, the places and items of such a one -/
inductive Itr where
  | st (xs : List PV)
  | dy (n : Nat)
  | dyE (n : Nat)
  | zp (st : Bool) (x y : PV)
def item : Itr → Nat → EH → Option (Option PV)
  | .st xs, i, _ => some xs[i]?
  | .dy n, i, h => match h[n]? with
    | some (.lst xs) => some xs[i]?
    | _ => none
  | .dyE n, i, h => match h[n]? with
    | some (.lst xs) => some (xs[i]?.map fun x => .tup [.int i, x])
    | _ => none
  | .zp st x y, i, h => match isLT h x, isLT h y with
    | some xs, some ys => match xs[i]?, ys[i]? with
      | some a, some b => some (some (.tup [a, b]))
      | _, _ => if i ≤ xs.length ∧ i ≤ ys.length ∧ (st = true → i = xs.length ∧ i = ys.length) then some none else none
    | _, _ => none
def rangeL (lo : Int) (st : Int) : Nat → List PV
  | 0 => []
  | n + 1 => .int lo :: rangeL (lo + st) st n
def enumL : Nat → List PV → List PV
  | _, [] => []
  | k, x :: xs => .tup [.int k, x] :: enumL (k + 1) xs
def small62 (i : Int) : Bool := decide (-(2 ^ 62) ≤ i) && decide (i < 2 ^ 62)
def rangeOf : List PV → Option (List PV)
  | [.int j] => if small62 j then some (rangeL 0 1 j.toNat) else none
  | [.int i, .int j] => if small62 i && small62 j then some (rangeL i 1 (j - i).toNat) else none
  | [.int i, .int j, .int c] => if c ≠ 0 ∧ c.natAbs < 1073741824 ∧ Builtin.Range.small i j c = true ∧ 0 ≤ Builtin.Range.rangeSize i j c then some (rangeL i c (Builtin.Range.rangeSize i j c).toNat) else none
  | _ => none

mutual
inductive CE where
  | lit (v : PV) | var (i : Nat)
  | bin (o : BOp) (a b : CE) | neg (a : CE) | inv (a : CE) | nt (a : CE) | and (a b : CE) | or (a b : CE)
  | cmp (o : COp) (a b : CE) | ife (c a b : CE)
  | tup (es : CEs) | lst (es : CEs) | dict (es : CEs) | idx (a b : CE) | slc (fl fh : Bool) (a lo hi : CE) | rev (a : CE)
  | call (f : Nat) (es : CEs) | bi (b : Bi) (es : CEs) | meth (m : Me) (o : CE) (es : CEs) | fb (f : Fb) (es : CEs)
  | tupR (es : CEs) | lstR (es : CEs) | isI (t : Ty) (a : CE) | kix (kvs : List (Str × PV)) (a : CE) | chn (o o' : COp) (a b c : CE)
  | comp (elt : CE) (t : Tg) (it : CI) (cond : CE) (ws : List Nat)
  | dcomp (k v : CE) (t : Tg) (it : CI) (cond : CE) (ws : List Nat)
  | comp2 (elt : CE) (t : Tg) (it : CI) (t1 : Tg) (it1 : CI) (ws ws1 : List Nat)
  deriving DecidableEq
inductive CEs where
  | nil | cons (e : CE) (r : CEs) | star (e : CE) (r : CEs)
  deriving DecidableEq
inductive CI where
  | val (e : CE) | rng (es : CEs) | enum (e : CE) | zip (st : Bool) (a b : CE) | items (e : CE)
  deriving DecidableEq
end

def wipeE (s : Sg) : List Nat → Sg
  | [] => s
  | v :: vs => (wipeE s vs).set v none

def pairUp : List PV → Option (List (PV × PV))
  | [] => some []
  | k :: v :: r => match keyOf k, pairUp r with
    | some _, some q => some ((k, v) :: q)
    | _, _ => none
  | _ => none

/-- a comprehension's items, one by one: none of the inner option where the test fails -/
def compS (f : PV → EH → Option (Option PV × EH)) : List PV → List PV → EH → Option (List PV × EH)
  | [], acc, h => some (acc, h)
  | x :: xs, acc, h => match f x h with
    | none => none
    | some (none, h1) => compS f xs acc h1
    | some (some y, h1) => if acc.length < sizeLine then compS f xs (acc ++ [y]) h1 else none
def compD (it : Itr) (f : PV → EH → Option (Option PV × EH)) : Nat → Nat → List PV → EH → Option (List PV × EH)
  | 0, _, _, _ => none
  | n + 1, i, acc, h => match item it i h with
    | none => none
    | some none => some (acc, h)
    | some (some x) => match f x h with
      | none => none
      | some (none, h1) => compD it f n (i + 1) acc h1
      | some (some y, h1) => if acc.length < sizeLine then compD it f n (i + 1) (acc ++ [y]) h1 else none

def compK (it : Itr) (f : PV → EH → Option (Option (PV × PV) × EH)) : Nat → Nat → List (PV × PV) → EH → Option (List (PV × PV) × EH)
  | 0, _, _, _ => none
  | n + 1, i, acc, h => match item it i h with
    | none => none
    | some none => some (acc, h)
    | some (some x) => match f x h with
      | none => none
      | some (none, h1) => compK it f n (i + 1) acc h1
      | some (some (k, v), h1) => match keyOf k with
        | some _ => if acc.length < sizeLine then compK it f n (i + 1) (dput acc k v) h1 else none
        | none => none
/-- a walk whose turns go on with the list -/
def comp2D (it : Itr) (g : PV → List PV → EH → Option (List PV × EH)) : Nat → Nat → List PV → EH → Option (List PV × EH)
  | 0, _, _, _ => none
  | n + 1, i, acc, h => match item it i h with
    | none => none
    | some none => some (acc, h)
    | some (some x) => match g x acc h with
      | none => none
      | some (acc1, h1) => comp2D it g n (i + 1) acc1 h1
def itFuel (fu : Nat) : Itr → Nat
  | .st xs => xs.length + 1
  | _ => fu

abbrev Ca := Nat → List PV → EH → Rt

mutual
def ev (F : Ca) (fu : Nat) : CE → Sg → EH → Rt
  | .lit v, _, h => some (v, h)
  | .var i, s, h => match s[i]? with
    | some (some v) => some (v, h)
    | _ => none
  | .bin o a b, s, h => match ev F fu a s h with
    | none => none
    | some (x, h1) => match ev F fu b s h1 with
      | none => none
      | some (y, h2) => opB o x y h2
  | .neg a, s, h => match ev F fu a s h with
    | some (.int i, h1) => some (.int (-i), h1)
    | _ => none
  | .inv a, s, h => match ev F fu a s h with
    | some (.int i, h1) => some (.int (Builtin.bitNot i), h1)
    | _ => none
  | .nt a, s, h => match ev F fu a s h with
    | none => none
    | some (x, h1) => match truth h1 x with
      | none => none
      | some b => some (.bl (!b), h1)
  | .and a b, s, h => match ev F fu a s h with
    | none => none
    | some (x, h1) => match truth h1 x with
      | none => none
      | some true => ev F fu b s h1
      | some false => some (x, h1)
  | .or a b, s, h => match ev F fu a s h with
    | none => none
    | some (x, h1) => match truth h1 x with
      | none => none
      | some true => some (x, h1)
      | some false => ev F fu b s h1
  | .cmp o a b, s, h => match ev F fu a s h with
    | none => none
    | some (x, h1) => match ev F fu b s h1 with
      | none => none
      | some (y, h2) => match opC o x y h2 with
        | none => none
        | some b => some (.bl b, h2)
  | .ife c a b, s, h => match ev F fu c s h with
    | none => none
    | some (x, h1) => match truth h1 x with
      | none => none
      | some true => ev F fu a s h1
      | some false => ev F fu b s h1
  | .tup es, s, h => match evs F fu es s h with
    | none => none
    | some (xs, h1) => newT xs h1
  | .lst es, s, h => match evs F fu es s h with
    | none => none
    | some (xs, h1) => newL xs h1
  | .dict es, s, h => match evs F fu es s h with
    | none => none
    | some (xs, h1) => match pairUp xs with
      | none => none
      | some kvs => if kvs.length ≤ 15 then new (.dict (dmerge [] kvs)) h1 else none
  | .idx a b, s, h => match ev F fu a s h with
    | none => none
    | some (x, h1) => match ev F fu b s h1 with
      | none => none
      | some (y, h2) => match opIx x y h2 with
        | none => none
        | some z => some (z, h2)
  | .slc fl fh a lo hi, s, h => match ev F fu a s h with
    | none => none
    | some (x, h1) => match ev F fu lo s h1 with
      | none => none
      | some (l, h2) => match ev F fu hi s h2 with
        | none => none
        | some (u, h3) => match partOf fl l, partOf fh u with
          | some l, some u => opSl x l u h3
          | _, _ => none
  | .rev a, s, h => match ev F fu a s h with
    | none => none
    | some (x, h1) => opRev x h1
  | .call f es, s, h => match evs F fu es s h with
    | none => none
    | some (xs, h1) => F f xs h1
  | .bi b es, s, h => match evs F fu es s h with
    | none => none
    | some (xs, h1) => opBi b xs h1
  | .fb b es, s, h => match evs F fu es s h with
    | none => none
    | some (xs, h1) => opFb b xs h1
  | .meth m o es, s, h => match ev F fu o s h with
    | none => none
    | some (x, h1) => if meK h1 x m = true then (match evs F fu es s h1 with
      | none => none
      | some (xs, h2) => opMe m x xs h2) else none
  | .tupR es, s, h => match evs F fu es s h with
    | none => none
    | some (xs, h1) => match rangeOf xs with
      | none => none
      | some ys => newT ys h1
  | .lstR es, s, h => match evs F fu es s h with
    | none => none
    | some (xs, h1) => match rangeOf xs with
      | none => none
      | some ys => newL ys h1
  | .isI t a, s, h => match ev F fu a s h with
    | none => none
    | some (x, h1) => match isTy h1 t x with
      | none => none
      | some b => some (.bl b, h1)
  | .kix kvs a, s, h => match ev F fu a s h with
    | some (.str z, h1) => match kvs.lookup z with
      | some v => some (v, h1)
      | none => none
    | _ => none
  | .chn o o' a b c, s, h => match ev F fu a s h with
    | none => none
    | some (x, h1) => match ev F fu b s h1 with
      | none => none
      | some (y, h2) => match opC o x y h2 with
        | none => none
        | some false => some (.bl false, h2)
        | some true => match ev F fu c s h2 with
          | none => none
          | some (z, h3) => match opC o' y z h3 with
            | none => none
            | some b => some (.bl b, h3)
  | .comp elt t it c ws, s, h => match evI F fu it s h with
    | none => none
    | some (J, h1) =>
      let f := fun x h2 => match bindT t x (wipeE s ws) with
        | none => none
        | some s2 => match ev F fu c s2 h2 with
          | none => none
          | some (b, h3) => match truth h3 b with
            | none => none
            | some false => some (none, h3)
            | some true => match ev F fu elt s2 h3 with
              | none => none
              | some (y, h4) => some (some y, h4)
      match (match J with
        | .st xs => compS f xs [] h1
        | J => compD J f fu 0 [] h1) with
      | none => none
      | some (acc, h5) => new (.lst acc) h5
  | .dcomp ke ve t it c ws, s, h => match evI F fu it s h with
    | none => none
    | some (J, h1) =>
      let f := fun x h2 => match bindT t x (wipeE s ws) with
        | none => none
        | some s2 => match ev F fu c s2 h2 with
          | none => none
          | some (b, h3) => match truth h3 b with
            | none => none
            | some false => some (none, h3)
            | some true => match ev F fu ke s2 h3 with
              | none => none
              | some (k, h4) => match ev F fu ve s2 h4 with
                | none => none
                | some (y, h5) => some (some (k, y), h5)
      match compK J f (itFuel fu J) 0 [] h1 with
      | none => none
      | some (acc, h5) => new (.dict acc) h5
  | .comp2 elt t it t1 it1 ws ws1, s, h => match evI F fu it s h with
    | none => none
    | some (J, h1) =>
      let g := fun x acc h2 => match bindT t x (wipeE s ws) with
        | none => none
        | some s2 => match evI F fu it1 s2 h2 with
          | none => none
          | some (J1, h3) => compD J1 (fun y h4 => match bindT t1 y (wipeE s2 ws1) with
            | none => none
            | some s3 => match ev F fu elt s3 h4 with
              | none => none
              | some (z, h5) => some (some z, h5)) (itFuel fu J1) 0 acc h3
      match comp2D J g (itFuel fu J) 0 [] h1 with
      | none => none
      | some (acc, h5) => new (.lst acc) h5
def evs (F : Ca) (fu : Nat) : CEs → Sg → EH → Option (List PV × EH)
  | .nil, _, h => some ([], h)
  | .cons e r, s, h => match ev F fu e s h with
    | none => none
    | some (x, h1) => match evs F fu r s h1 with
      | none => none
      | some (xs, h2) => some (x :: xs, h2)
  | .star e r, s, h => match ev F fu e s h with
    | none => none
    | some (x, h1) => match isLT h1 x with
      | none => none
      | some ys => match evs F fu r s h1 with
        | none => none
        | some (xs, h2) => some (ys ++ xs, h2)
def evI (F : Ca) (fu : Nat) : CI → Sg → EH → Option (Itr × EH)
  | .val e, s, h => match ev F fu e s h with
    | none => none
    | some (x, h1) => match x with
      | .tup xs => some (.st xs, h1)
      | .fl xs => some (.st xs, h1)
      | .ref n => match h1[n]? with
        | some (.lst _) => some (.dy n, h1)
        | some (.dict kvs) => some (.st (kvs.map (·.1)), h1.set n (.fd kvs))
        | some (.fd kvs) => some (.st (kvs.map (·.1)), h1)
        | some (.iset _) => none
        | none => none
      | .str z => some (.st (z.cps.toList.map fun c => .str ⟨#[c]⟩), h1)
      | _ => none
  | .rng es, s, h => match evs F fu es s h with
    | none => none
    | some (xs, h1) => match rangeOf xs with
      | none => none
      | some ys => some (.st ys, h1)
  | .enum e, s, h => match ev F fu e s h with
    | none => none
    | some (x, h1) => match x with
      | .tup xs => some (.st (enumL 0 xs), h1)
      | .fl xs => some (.st (enumL 0 xs), h1)
      | .ref n => match h1[n]? with
        | some (.lst _) => some (.dyE n, h1)
        | _ => none
      | _ => none
  | .zip st a b, s, h => match ev F fu a s h with
    | none => none
    | some (x, h1) => match ev F fu b s h1 with
      | none => none
      | some (y, h2) => if (isLT h2 x).isSome = true ∧ (isLT h2 y).isSome = true then some (.zp st x y, h2) else none
  | .items e, s, h => match ev F fu e s h with
    | none => none
    | some (x, h1) => match x with
      | .ref n => match h1[n]? with
        | some (.dict kvs) => some (.st (kvs.map fun p => .tup [p.1, p.2]), h1.set n (.fd kvs))
        | some (.fd kvs) => some (.st (kvs.map fun p => .tup [p.1, p.2]), h1)
        | _ => none
      | _ => none
end

/-- a statement's end -/
inductive Fl where
  | nx | rt (v : PV) | bk | ct
abbrev RtS := Option (Fl × Sg × EH)

inductive CG where
  | nm (i : Nat) | tp (is : List Nat) | sub (o i : CE)
  deriving DecidableEq
mutual
inductive CS where
  | expr (e : CE) | asg (g : CG) (e : CE) | par (is : List Nat) (es : CEs) | aug (i : Nat) (o : BOp) (e : CE)
  | ret (e : CE) | ifs (c : CE) (a b : CSs) | whl (c : CE) (b : CSs) | frr (t : Tg) (it : CI) (b : CSs)
  | brk | cnt | pss | augx (o i : CE) (p : BOp) (e : CE) | stk
  deriving DecidableEq
inductive CSs where
  | nil | cons (s : CS) (r : CSs)
  deriving DecidableEq
end

def whileF (c : Sg → EH → Option (Bool × EH)) (b : Sg → EH → RtS) : Nat → Sg → EH → RtS
  | 0, _, _ => none
  | n + 1, s, h => match c s h with
    | none => none
    | some (false, h1) => some (.nx, s, h1)
    | some (true, h1) => match b s h1 with
      | none => none
      | some (.nx, s2, h2) => whileF c b n s2 h2
      | some (.ct, s2, h2) => whileF c b n s2 h2
      | some (.bk, s2, h2) => some (.nx, s2, h2)
      | some (.rt v, s2, h2) => some (.rt v, s2, h2)
def forS (b : PV → Sg → EH → RtS) : List PV → Sg → EH → RtS
  | [], s, h => some (.nx, s, h)
  | x :: xs, s, h => match b x s h with
    | none => none
    | some (.nx, s2, h2) => forS b xs s2 h2
    | some (.ct, s2, h2) => forS b xs s2 h2
    | some (.bk, s2, h2) => some (.nx, s2, h2)
    | some (.rt v, s2, h2) => some (.rt v, s2, h2)
def forD (it : Itr) (b : PV → Sg → EH → RtS) : Nat → Nat → Sg → EH → RtS
  | 0, _, _, _ => none
  | n + 1, i, s, h => match item it i h with
    | none => none
    | some none => some (.nx, s, h)
    | some (some x) => match b x s h with
      | none => none
      | some (.nx, s2, h2) => forD it b n (i + 1) s2 h2
      | some (.ct, s2, h2) => forD it b n (i + 1) s2 h2
      | some (.bk, s2, h2) => some (.nx, s2, h2)
      | some (.rt v, s2, h2) => some (.rt v, s2, h2)

mutual
def evS (F : Ca) (fu : Nat) : CS → Sg → EH → RtS
  | .expr e, s, h => match ev F fu e s h with
    | none => none
    | some (_, h1) => some (.nx, s, h1)
  | .asg g e, s, h => match ev F fu e s h with
    | none => none
    | some (x, h1) => match g with
      | .nm i => some (.nx, s.set i (some x), h1)
      | .tp is => match unT h1 x with
        | none => none
        | some xs => match bindAll is xs s with
          | none => none
          | some s2 => some (.nx, s2, h1)
      | .sub o i => match ev F fu o s h1 with
        | none => none
        | some (y, h2) => match ev F fu i s h2 with
          | none => none
          | some (z, h3) => match setIx y z x h3 with
            | none => none
            | some h4 => some (.nx, s, h4)
  | .par is es, s, h => match evs F fu es s h with
    | none => none
    | some (xs, h1) => match bindAll is xs s with
      | none => none
      | some s2 => some (.nx, s2, h1)
  | .aug i o e, s, h => match s[i]? with
    | some (some x) => match ev F fu e s h with
      | none => none
      | some (y, h1) => match opA o x y h1 with
        | none => none
        | some (z, h2) => some (.nx, s.set i (some z), h2)
    | _ => none
  | .ret e, s, h => match ev F fu e s h with
    | none => none
    | some (x, h1) => some (.rt x, s, h1)
  | .ifs c a b, s, h => match ev F fu c s h with
    | none => none
    | some (x, h1) => match truth h1 x with
      | none => none
      | some true => evSs F fu a s h1
      | some false => evSs F fu b s h1
  | .whl c b, s, h => whileF (fun s h => match ev F fu c s h with
      | none => none
      | some (x, h1) => match truth h1 x with
        | none => none
        | some t => some (t, h1)) (evSs F fu b) fu s h
  | .frr t it b, s, h => match evI F fu it s h with
    | none => none
    | some (J, h1) =>
      let f := fun x s h => match bindT t x s with
        | none => none
        | some s2 => evSs F fu b s2 h
      match J with
      | .st xs => forS f xs s h1
      | J => forD J f fu 0 s h1
  | .brk, s, h => some (.bk, s, h)
  | .cnt, s, h => some (.ct, s, h)
  | .pss, s, h => some (.nx, s, h)
  | .augx o i p e, s, h => match ev F fu o s h with
    | none => none
    | some (x, h1) => match ev F fu i s h1 with
      | none => none
      | some (y, h2) => match opGx x y h2 with
        | none => none
        | some v => match ev F fu e s h2 with
          | none => none
          | some (w, h3) => match opA p v w h3 with
            | none => none
            | some (z, h4) => match setIx x y z h4 with
              | none => none
              | some h5 => some (.nx, s, h5)
  | .stk, _, _ => none
def evSs (F : Ca) (fu : Nat) : CSs → Sg → EH → RtS
  | .nil, s, h => some (.nx, s, h)
  | .cons a r, s, h => match evS F fu a s h with
    | none => none
    | some (.nx, s2, h2) => evSs F fu r s2 h2
    | some x => some x
end

structure Fn where
  np : Nat
  nl : Nat
  body : CSs
def run (P : List Fn) (fu : Nat) : Nat → Ca
  | 0, _, _, _ => none
  | d + 1, f, args, h => match P[f]? with
    | none => none
    | some fn => if args.length = fn.np then
        match evSs (run P fu d) fu fn.body (args.map some ++ List.replicate (fn.nl - fn.np) none) h with
        | some (.nx, _, h1) => some (.non, h1)
        | some (.rt v, _, h1) => some (v, h1)
        | _ => none
      else none
end EV

set_option Elab.async false
set_option linter.all false
set_option maxRecDepth 100000
set_option maxHeartbeats 4000000
/-! EV30: a tuple taken none times, once, or an empty one. -/
namespace EV
open PySem PySem.Spec PyProof.Rows L2
open PySem.AutoSeq1 (wpAny_loadPart')
theorem tup_mulS (l : Addr) (items : Array Value) (n : Nat) (dd : Option Addr) (sl : Array (Option Value)) (x : Int) (u : Tok) (c0 : (decide (x < -(2 ^ 63)) || decide (x ≥ 2 ^ 63)) = false) (c1 : (items.isEmpty || x == 1) = true) :
    Meets (Builtin.«tuple.__mul__» ⟨[.ref l, .int x u], []⟩) (fun _ R s => s.heap.get? l = some { cls := .type "tuple", dict := dd, data := .seq items n, slots := sl } ∧ R (.ok (.ret (Value.ref l))) { s with heap := s.heap, toks := s.toks }) :=
  .of_wp fun prog w A R s h => by
    obtain ⟨hp, g, d, tk, os⟩ := s
    obtain ⟨hl, h⟩ := h
    have f1 := AutoSeq1.idx_int
    wp_walk using wpAny_loadPart' hl
    repeat (first
      | (refine wpAny_ite_false (decide_eq_false (by rw [c0]; exact Bool.false_ne_true)) ?_; wp_walk using wpAny_loadPart' hl)
      | (refine wpAny_ite_true (decide_eq_true c1) ?_; wp_walk using wpAny_loadPart' hl))
    exact ⟨_, rfl, h⟩
theorem tup_mul0 (l : Addr) (items : Array Value) (n : Nat) (dd : Option Addr) (sl : Array (Option Value)) (x : Int) (u : Tok) (c0 : (decide (x < -(2 ^ 63)) || decide (x ≥ 2 ^ 63)) = false) (c1 : (items.isEmpty || x == 1) = false) (c2 : (decide (x ≤ 0) || items.isEmpty) = true) :
    Meets (Builtin.«tuple.__mul__» ⟨[.ref l, .int x u], []⟩) (fun _ R s => s.heap.get? l = some { cls := .type "tuple", dict := dd, data := .seq items n, slots := sl } ∧
      R (.ok (.ret (Value.ref s.heap.objs.size))) { s with heap := s.heap.push { cls := Value.type "tuple", data := Data.seq #[] }, toks := s.toks }) :=
  .of_wp fun prog w A R s h => by
    obtain ⟨hp, g, d, tk, os⟩ := s
    obtain ⟨hl, h⟩ := h
    have f1 := AutoSeq1.idx_int
    wp_walk using wpAny_loadPart' hl
    repeat (first
      | (refine wpAny_ite_false (decide_eq_false (by rw [c0]; exact Bool.false_ne_true)) ?_; wp_walk using wpAny_loadPart' hl)
      | (refine wpAny_ite_false (decide_eq_false (by rw [c1]; exact Bool.false_ne_true)) ?_; wp_walk using wpAny_loadPart' hl)
      | (refine wpAny_ite_true (decide_eq_true c2) ?_; wp_walk using wpAny_loadPart' hl))
    exact ⟨_, rfl, h⟩
def rRepS (K : PySem.W.Frag) : R2 := fun x y H Q => ∃ l k xs, x = .ref l ∧ y = .int k ∧ SqT K H l xs ∧ (xs = [] ∨ k = 1) ∧ -1000 ≤ k ∧ k ≤ 1000 ∧ Q (.ref l) H
def rRep0 (K : PySem.W.Frag) : R2 := fun x y H Q => ∃ l k xs, x = .ref l ∧ y = .int k ∧ SqT K H l xs ∧ xs ≠ [] ∧ -1000 ≤ k ∧ k ≤ 0 ∧ ∀ p, H p = none → Q (.ref p) (upd H p (.tup []))
section
variable {X : Cx}
theorem op_repS : OpR X (binaryOp .Mult) (rRepS X.K) := by
  intro pins s σ H x y v u Q I rx ry h
  obtain ⟨l, k, xs, rfl, rfl, hT, hc1, h1, h2, q⟩ := h
  cases rx
  obtain ⟨t, rfl⟩ := ry
  obtain ⟨its, r, ⟨⟨cls, dd, data, sl⟩, ho, hc, n, hd⟩, hs⟩ := I.tuple hT
  simp only at hc hd
  subst hc hd
  have hle : its.length = xs.length := r.length.symm
  have c0 : (decide (k < -(2 ^ 63)) || decide (k ≥ 2 ^ 63)) = false := by
    rw [decide_eq_false (by omega), decide_eq_false (by omega)] <;> rfl
  have c1 : (its.toArray.isEmpty || k == 1) = true := by
    rcases hc1 with e | e
    · subst e
      have : its = [] := List.eq_nil_of_length_eq_zero (hle.trans rfl)
      subst this
      rfl
    · subst e
      simp
  exact wpAny_binaryOp_repeat_ref (T := "tuple") (U := "int") (by decide) ⟨_, ho, rfl⟩ (fun s' => typeIs_int s' k t) noFill_tuple_mul F.fills_int_mul F.slot_int_rmul repeat_tuple F.slot_int_index.lookup
    (call_meets F.slot_int_rmul (typeIs_int s k t) F.entry_int_rmul (F.args_int_rmul_2 _ _) (int_rmul_tuple k t l its.toArray n dd sl)
      ⟨ho, rfl, ⟨_, ho, rfl⟩, call_meets F.slot_tuple_mul ⟨_, ho, rfl⟩ F.entry_tuple_mul (F.args_tuple_mul_2 _ _) (tup_mulS l its.toArray n dd sl k t c0 c1) ⟨ho, .ref l, H, I, rfl, q⟩⟩)
theorem op_rep0 : OpR X (binaryOp .Mult) (rRep0 X.K) := by
  intro pins s σ H x y v u Q I rx ry h
  obtain ⟨l, k, xs, rfl, rfl, hT, hne, h1, h2, q⟩ := h
  cases rx
  obtain ⟨t, rfl⟩ := ry
  obtain ⟨its, r, ⟨⟨cls, dd, data, sl⟩, ho, hc, n, hd⟩, hs⟩ := I.tuple hT
  simp only at hc hd
  subst hc hd
  have hle : its.length = xs.length := r.length.symm
  have hn : its ≠ [] := fun e => hne (by
    rw [e] at hle
    exact List.eq_nil_of_length_eq_zero hle.symm)
  have hi : its.toArray.isEmpty = false := by
    cases its with
    | nil => exact absurd rfl hn
    | cons a b => rfl
  have c0 : (decide (k < -(2 ^ 63)) || decide (k ≥ 2 ^ 63)) = false := by
    rw [decide_eq_false (by omega), decide_eq_false (by omega)] <;> rfl
  have c1 : (its.toArray.isEmpty || k == 1) = false := by
    rw [hi, Bool.false_or]
    exact beq_eq_false_iff_ne.mpr (by omega)
  have c2 : (decide (k ≤ 0) || its.toArray.isEmpty) = true := by
    rw [decide_eq_true h2]; rfl
  refine wpAny_binaryOp_repeat_ref (T := "tuple") (U := "int") (by decide) ⟨_, ho, rfl⟩ (fun s' => typeIs_int s' k t) noFill_tuple_mul F.fills_int_mul F.slot_int_rmul repeat_tuple F.slot_int_index.lookup
    (call_meets F.slot_int_rmul (typeIs_int s k t) F.entry_int_rmul (F.args_int_rmul_2 _ _) (int_rmul_tuple k t l its.toArray n dd sl)
      ⟨ho, rfl, ⟨_, ho, rfl⟩, call_meets F.slot_tuple_mul ⟨_, ho, rfl⟩ F.entry_tuple_mul (F.args_tuple_mul_2 _ _) (tup_mul0 l its.toArray n dd sl k t c0 c1 c2) ⟨ho, ?_⟩⟩)
  refine ⟨.ref s.heap.objs.size, _, I.laid (t' := s.toks) (o := .tup []) (fun b ob q => Heap.get?_push_of_some _ q) (Nat.le_refl _) ?_, rfl, q _ (I.hok.fresh (Nat.le_refl _))⟩
  exact ⟨by simp, _, .nil, IsTup.new _ _⟩
end
end EV

set_option Elab.async false
set_option linter.all false
set_option maxRecDepth 100000
set_option maxHeartbeats 4000000
/-! EVZ7: a set of ints and what is in it; sorted of alike data. -/
namespace EV
open PySem PySem.Spec PySem.W PyProof.Rows L2
def rSetI (K : PySem.W.Frag) : List V → Hp → VK → Prop := fun xs H Q => ∃ (p : Addr) (ns : List Int), xs = [.ref p] ∧ (SqL K H p (ns.map V.int) ∨ SqT K H p (ns.map V.int)) ∧ ns.length ≤ 1000 ∧
  ∀ (q : Addr) (c : Nat), H q = none → Q (.ref q) (upd H q (.set (fun j => decide (j ∈ ns)) c))
theorem range_getD (ns : List Int) : (List.range ns.length).map (fun i => ns.getD i 0) = ns := by
  refine List.ext_getElem (by simp) fun i h1 h2 => ?_
  simp [List.getD_eq_getElem?_getD, List.getElem?_eq_getElem h2]
section
variable {X : Cx}
theorem cr_setI (hc : X.calm = true) : CallR X (.type "set") (rSetI X.K) := by
  intro pins s σ H xs us Q I r h
  obtain ⟨p0, ns, rfl, hq, hl, q⟩ := h
  rw [Vals.ref1 r]
  have hd := I.ok.hd hc
  rcases hq with hq | hq
  · obtain ⟨its, rv, pl, hz⟩ := I.list hq
    have hsz : its.toArray.size = ns.length := by rw [List.size_toArray, ← rv.length, List.length_map]
    refine call_set_list hd pl.isList (ns := ns) (by simpa using rv.ints) (by unfold scanBound; omega) fun h' tk hS hk => ?_
    have e : (fun k' => (firstMet (fun i => ns.getD i 0) its.toArray.size).any (· == k')) = fun j => decide (j ∈ ns) := by
      funext j
      rw [firstMet_any, hsz, range_getD]
      rw [Bool.eq_iff_iff]
      simp
    rw [e] at hS
    exact ⟨.ref _, upd H s.heap.objs.size (.set (fun j => decide (j ∈ ns)) _), I.laid (t' := tk) (fun b u e => hk b u (Heap.lt_size e) e) (Nat.le_refl _) hS, rfl, q _ _ (I.hok.fresh (Nat.le_refl _))⟩
  · obtain ⟨its, rv, pt, hz⟩ := I.tuple hq
    have hi : IntsAre its.toArray.toList ns := by simpa using rv.ints
    refine call_set_tupI ns hd (show s.heap.IsTuple p0 its.toArray from pt) hi (by unfold scanBound; omega) fun h' tk c R1 hcn k => ?_
    exact ⟨.ref _, upd H s.heap.objs.size (.set (fun j => decide (j ∈ ns)) c), I.laid (t' := tk) k (Nat.le_refl _) R1.setOf, rfl, q _ _ (I.hok.fresh (Nat.le_refl _))⟩
/-- whether an int is in a set -/
def rInS (neg : Bool) : R2 := fun x y H Q => ∃ k a S n, x = V.int k ∧ y = V.ref a ∧ H a = some (.set S n) ∧ Q (.bl (S k != neg)) H
theorem op_inS : OpR X (compareOp .In) (rInS false) := by
  intro pins s σ H x y v u Q I rx ry h
  obtain ⟨k, a, S, n, rfl, rfl, ha, q⟩ := h
  obtain ⟨tk, rfl⟩ := rx
  cases ry
  refine wpAny_inSet_of (intKind_is _ _ _ _) rfl (I.hok a _ ha) ⟨.bl (S k), H, I.tok _, rfl, ?_⟩
  have e : (S k != false) = S k := by cases S k <;> rfl
  rw [e] at q
  exact q
theorem op_notInS : OpR X (compareOp .NotIn) (rInS true) := by
  intro pins s σ H x y v u Q I rx ry h
  obtain ⟨k, a, S, n, rfl, rfl, ha, q⟩ := h
  obtain ⟨tk, rfl⟩ := rx
  cases ry
  refine wpAny_notInSet_of (intKind_is _ _ _ _) rfl (I.hok a _ ha) ⟨.bl (!S k), H, I.tok _, rfl, ?_⟩
  have e : (S k != true) = !S k := by cases S k <;> rfl
  rw [e] at q
  exact q
/-- sorted of alike data -/
def rSortedPV (K : PySem.W.Frag) (A : Around) : List V → Hp → VK → Prop := fun vs H Q => ∃ (a : Addr) (xs : List V) (φ : List Addr) (ps : List PV) (enc : PV → PyData), vs = [V.ref a] ∧ SqL K H a xs ∧ RVs K φ H ps xs ∧ DpAll K H xs (ps.map enc) ∧
  AllAlike (ps.map enc) ∧ PySem.W.Sortable (ps.map enc) ∧ (∀ p ∈ ps, A.units + 2 + (enc p).depth < cLine) ∧
  ∀ (p : Addr) (ys : List V), RVs K φ H (ps.mergeSort (dataLe false enc)) ys → H p = none → Q (.ref p) (upd H p (.lst ys))
theorem each_of {K : PySem.W.Frag} {φ : List Addr} {H : Hp} : ∀ {ps : List PV} {xs : List V} {us : List Value}, RVs K φ H ps xs → Vals xs us → EachIs (fun u p => ∃ v, RelV v u ∧ RV K φ H p v) us ps
  | [], _, _, q, r => by cases q; cases r; exact .nil
  | p :: ps, _, _, q, r => by
    cases q with
    | cons rx t => cases r with
      | cons r1 r2 => exact .cons ⟨_, r1, rx⟩ (each_of t r2)
theorem of_each {K : PySem.W.Frag} {φ : List Addr} {H : Hp} : ∀ {ps : List PV} {us : List Value}, EachIs (fun u p => ∃ v, RelV v u ∧ RV K φ H p v) us ps → ∃ ys, Vals ys us ∧ RVs K φ H ps ys
  | [], _, e => by cases e; exact ⟨[], .nil, .nil⟩
  | p :: ps, _, e => by
    cases e with
    | cons r t =>
      obtain ⟨v, r1, r2⟩ := r
      obtain ⟨ys, h1, h2⟩ := of_each t
      exact ⟨v :: ys, .cons r1 h1, .cons r2 h2⟩
theorem each_dp {pins : List (Addr × Obj)} {σ : L2.St} {H : Hp} {s : Shared} (I : Inv X pins σ H s) {enc : PV → PyData} : ∀ {ps : List PV} {xs : List V} {us : List Value}, DpAll X.K H xs (ps.map enc) → Vals xs us → EachIs (fun u p => ∃ as, Reads s.heap u (enc p) as) us ps
  | [], _, _, d, r => by cases d; cases r; exact .nil
  | p :: ps, _, _, d, r => by
    cases d with
    | cons d1 d2 => cases r with
      | cons r1 r2 => exact .cons (Dp.reads I _ _ _ d1 r1) (each_dp I d2 r2)
theorem cr_sortedPV : CallR X (.builtin "sorted") (rSortedPV X.K X.A) := by
  intro pins s σ H vs us Q I r h
  obtain ⟨a, xs, φ, ps, enc, rfl, hs, rps, dp, hal, hk, hu, q⟩ := h
  obtain ⟨its, rv, hl, hz⟩ := I.list hs
  rw [Vals.ref1 r]
  have hE := each_of rps rv
  have hL : ps.length ≤ sizeLine := by rw [← hE.length, ← rv.length]; exact hz
  refine sorted_data hl.isList hE (each_dp I dp rv) hal hk hL hu fun out ho eo => ?_
  obtain ⟨ys, y1, y2⟩ := of_each eo
  obtain ⟨ep, he'⟩ := PyProof.Rows.sortedAll_at s.heap its out.toArray
  exact ⟨.ref _, upd H (s.heap.objs.size + 1) (.lst ys), I.laid (t' := s.toks) (fun _ _ => PyProof.Rows.sortedAll_old) (Nat.le_succ _) ⟨by rw [y1.length, ho]; exact hL, out, ep, y1, he'⟩, rfl, q _ _ y2 (I.hok.fresh (Nat.le_succ _))⟩
end
end EV

set_option Elab.async false
set_option linter.all false
set_option maxRecDepth 100000
set_option maxHeartbeats 4000000
/-! EV3: what the evaluator does with values is what the layer's rules say. -/
namespace EV
open PySem PySem.Spec L2

/-- what is wanted behind a step of the evaluator that ends with pv and h' -/
def Fi (K : PySem.W.Frag) (φ : List Addr) (H : Hp) (h' : EH) (pv : PV) (Q : VK) : Prop :=
  ∀ φ' H' v, Ext φ H φ' H' → Rep K φ' H' h' → RV K φ' H' pv v → Q v H'
section
variable {K : PySem.W.Frag} {φ : List Addr} {H : Hp} {h h' : EH} {Q : VK} {pv : PV} {v : V} {p : Addr}
theorem Fi.here (f : Fi K φ H h pv Q) (r : Rep K φ H h) (q : RV K φ H pv v) : Q v H := f φ H v (Ext.refl _ _) r q
theorem Fi.tup {ps : List PV} {vs : List V} (f : Fi K φ H h (.tup ps) Q) (r : Rep K φ H h) (q : RVs K φ H ps vs) (hp : H p = none) : Q (.ref p) (upd H p (.tup vs)) :=
  f φ _ _ (Ext.put hp) (r.put hp) (.tup (SqT.of upd_same) (q.mono r (Ext.put hp)))
theorem Fi.newLst {ps : List PV} {vs : List V} (f : Fi K φ H (h ++ [.lst ps]) (.ref h.length) Q) (r : Rep K φ H h) (q : RVs K φ H ps vs) (hp : H p = none) : Q (.ref p) (upd H p (.lst vs)) :=
  f (φ ++ [p]) _ _ (Ext.new hp) (r.new hp ⟨vs, upd_same, q.mono r (Ext.new hp)⟩) (.ref (by rw [← r.len]; simp))
theorem Fi.newDict {ps : List (PV × PV)} {vs : List (Key × V)} (f : Fi K φ H (h ++ [.dict ps]) (.ref h.length) Q) (r : Rep K φ H h) (q : RKs K φ H ps vs) (hp : H p = none) : Q (.ref p) (upd H p (.dK vs)) :=
  f (φ ++ [p]) _ _ (Ext.new hp) (r.new hp ⟨vs, upd_same, q.mono r (Ext.new hp)⟩) (.ref (by rw [← r.len]; simp))
theorem mem_at {n : Nat} {a : Addr} (e : φ[n]? = some a) : a ∈ φ := List.mem_iff_getElem?.mpr ⟨n, e⟩
theorem Rep.setLst {n : Nat} {ps : List PV} {vs : List V} {a : Addr} (r : Rep K φ H h) (e : φ[n]? = some a) {ws : List V} (a1 : H a = some (.lst ws)) (q : RVs K φ H ps vs) : Rep K φ (upd H a (.lst vs)) (h.set n (.lst ps)) :=
  r.chg e (Ext.set (mem_at e) a1) ⟨vs, upd_same, q.mono r (Ext.set (mem_at e) a1)⟩
theorem Rep.setDict {n : Nat} {ps : List (PV × PV)} {vs : List (Key × V)} {a : Addr} (r : Rep K φ H h) (e : φ[n]? = some a) {ws : List (Key × V)} (a1 : H a = some (.dK ws)) (q : RKs K φ H ps vs) : Rep K φ (upd H a (.dK vs)) (h.set n (.dict ps)) :=
  r.chg e (Ext.set (mem_at e) a1) ⟨vs, upd_same, q.mono r (Ext.set (mem_at e) a1)⟩
/-- a dict is frozen -/
theorem Rep.freeze {n : Nat} {ps : List (PV × PV)} {vs : List (Key × V)} {a : Addr} {od : Obj} (r : Rep K φ H h) (e : φ[n]? = some a) (a1 : H a = some (.dK vs)) (q : RKs K φ H ps vs) : Ext φ H φ (upd H a (.frz od (.dK vs))) ∧ Rep K φ (upd H a (.frz od (.dK vs))) (h.set n (.fd ps)) :=
  ⟨Ext.set (mem_at e) a1, r.chg e (Ext.set (mem_at e) a1) ⟨od, vs, upd_same, q.mono r (Ext.set (mem_at e) a1)⟩⟩
/-- the list at n -/
theorem Rep.lst {n : Nat} {ps : List PV} {a : Addr} (r : Rep K φ H h) (e : φ[n]? = some a) (l : h[n]? = some (.lst ps)) : ∃ vs, H a = some (.lst vs) ∧ RVs K φ H ps vs := r.ob n a _ e l
theorem Rep.dict {n : Nat} {ps : List (PV × PV)} {a : Addr} (r : Rep K φ H h) (e : φ[n]? = some a) (l : h[n]? = some (.dict ps)) : ∃ vs, H a = some (.dK vs) ∧ RKs K φ H ps vs := r.ob n a _ e l
theorem Rep.fdict {n : Nat} {ps : List (PV × PV)} {a : Addr} (r : Rep K φ H h) (e : φ[n]? = some a) (l : h[n]? = some (.fd ps)) : ∃ o vs, H a = some (.frz o (.dK vs)) ∧ RKs K φ H ps vs := r.ob n a _ e l
theorem DGet.kf {H : Hp} {a : Addr} {o : Obj} {kvs : List (Key × V)} {k : Key} (e : H a = some (.frz o (.dK kvs))) : DGet H a (kV k) (valV kvs k) := .inl ⟨kvs, k, .inr ⟨o, e⟩, rfl, rfl⟩
/-- what is a list, a tuple -/
theorem isL_of {x : PV} {xs : List PV} {w : V} (r : Rep K φ H h) (q : RV K φ H x w) (e : isL h x = some xs) : ∃ a vs, w = .ref a ∧ SqL K H a vs ∧ RVs K φ H xs vs := by
  unfold isL at e
  split at e
  · cases e
    cases q with
    | fl t ts => exact ⟨_, _, rfl, t.sq, ts⟩
  · cases q with
    | ref q =>
      split at e
      · cases e
        rename_i l
        obtain ⟨vs, e1, e2⟩ := r.lst q l
        exact ⟨_, vs, rfl, SqL.of e1, e2⟩
      · cases e
  · cases e
theorem isLT_of {x : PV} {xs : List PV} {w : V} (r : Rep K φ H h) (q : RV K φ H x w) (e : isLT h x = some xs) : ∃ a vs, w = .ref a ∧ (SqL K H a vs ∨ SqT K H a vs) ∧ RVs K φ H xs vs := by
  unfold isLT at e
  split at e
  · cases e
    cases q with
    | tup t ts => exact ⟨_, _, rfl, .inr t, ts⟩
  · cases e
    cases q with
    | fl t ts => exact ⟨_, _, rfl, .inl t.sq, ts⟩
  · cases q with
    | ref q =>
      split at e
      · cases e
        rename_i l
        obtain ⟨vs, e1, e2⟩ := r.lst q l
        exact ⟨_, vs, rfl, .inl (SqL.of e1), e2⟩
      · cases e
  · cases e
theorem isDc_of {x : PV} {xs : List (PV × PV)} {w : V} (r : Rep K φ H h) (q : RV K φ H x w) (e : isDc h x = some xs) : ∃ a vs, w = .ref a ∧ H a = some (.dK vs) ∧ RKs K φ H xs vs := by
  unfold isDc at e
  split at e
  · cases q with
    | ref q =>
      split at e
      · cases e
        rename_i l
        obtain ⟨vs, e1, e2⟩ := r.dict q l
        exact ⟨_, vs, rfl, e1, e2⟩
      · cases e
  · cases e
/-- flat lists -/
theorem mapO_len {α β : Type} {f : α → Option β} : ∀ {xs : List α} {ys : List β}, mapO f xs = some ys → xs.length = ys.length
  | [], _, e => by cases e; rfl
  | x :: xs, ys, e => by
    unfold mapO at e
    split at e
    · cases e
    · split at e
      · cases e
      · cases e
        rename_i q
        rw [List.length_cons, List.length_cons, mapO_len q]
theorem intsOf_eq : ∀ {xs : List PV} {ns : List Int}, intsOf xs = some ns → xs = ns.map PV.int
  | [], _, e => by cases e; rfl
  | x :: xs, ns, e => by
    unfold intsOf mapO at e
    split at e
    · cases e
    · rename_i y hy
      split at e
      · cases e
      · rename_i ys hys
        cases e
        cases x <;> simp at hy
        subst hy
        rw [List.map_cons, ← intsOf_eq (xs := xs) hys]
theorem blsOf_eq : ∀ {xs : List PV} {ns : List Bool}, blsOf xs = some ns → xs = ns.map PV.bl
  | [], _, e => by cases e; rfl
  | x :: xs, ns, e => by
    unfold blsOf mapO at e
    split at e
    · cases e
    · rename_i y hy
      split at e
      · cases e
      · rename_i ys hys
        cases e
        cases x <;> simp at hy
        subst hy
        rw [List.map_cons, ← blsOf_eq (xs := xs) hys]
theorem RVs.ints {ns : List Int} {vs : List V} (q : RVs K φ H (ns.map PV.int) vs) : vs = ns.map V.int := by
  induction ns generalizing vs with
  | nil => cases q; rfl
  | cons n ns ih =>
    cases q with
    | cons q1 q2 => cases q1; rw [ih q2]; rfl
theorem RVs.bls {ns : List Bool} {vs : List V} (q : RVs K φ H (ns.map PV.bl) vs) : vs = ns.map V.bl := by
  induction ns generalizing vs with
  | nil => cases q; rfl
  | cons n ns ih =>
    cases q with
    | cons q1 q2 => cases q1; rw [ih q2]; rfl
theorem RVs.of_ints : ∀ ns : List Int, RVs K φ H (ns.map PV.int) (ns.map V.int)
  | [] => .nil
  | n :: ns => .cons (.int n) (RVs.of_ints ns)

/-! ### data -/
theorem toDs (k : Nat) (ih : ∀ (p : PV) (d : PyData) (v : V), toD h k p = some d → RV K φ H p v → Dp K H v d) :
    ∀ (ps : List PV) (ds : List PyData) (vs : List V), mapO (toD h k) ps = some ds → RVs K φ H ps vs → DpAll K H vs ds
  | [], ds, vs, e, q => by cases e; cases q; exact .nil
  | p :: ps, ds, vs, e, q => by
    unfold mapO at e
    split at e
    · cases e
    · rename_i y hy
      split at e
      · cases e
      · rename_i ys hys
        cases e
        cases q with
        | cons q1 q2 => exact .cons (ih _ _ _ hy q1) (toDs k ih ps ys _ hys q2)
theorem toD_ok (r : Rep K φ H h) : ∀ (k : Nat) (p : PV) (d : PyData) (v : V), toD h k p = some d → RV K φ H p v → Dp K H v d
  | 0, _, _, _, e, _ => by cases e
  | k + 1, p, d, v, e, q => by
    cases q with
    | non => cases e; exact .non
    | bl b => cases e; exact .bl b
    | int i => cases e; exact .int i
    | str x => cases e; exact .str x
    | tup t ts =>
      unfold toD at e
      obtain ⟨ds, e1, rfl⟩ := Option.map_eq_some_iff.mp e
      exact .tup t (toDs k (toD_ok r k) _ _ _ e1 ts)
    | fl t ts =>
      unfold toD at e
      obtain ⟨ds, e1, rfl⟩ := Option.map_eq_some_iff.mp e
      exact .lst t.sq (toDs k (toD_ok r k) _ _ _ e1 ts)
    | ref q =>
      unfold toD at e
      split at e
      · rename_i l
        obtain ⟨ds, e1, rfl⟩ := Option.map_eq_some_iff.mp e
        obtain ⟨vs, e2, e3⟩ := r.lst q l
        exact .lst (SqL.of e2) (toDs k (toD_ok r k) _ _ _ e1 e3)
      · cases e
end

/-- a rule by values, and the evaluator's own step -/
def BinOk (K : PySem.W.Frag) (r : R2) (f : PV → PV → EH → Rt) : Prop :=
  ∀ (φ : List Addr) (H : Hp) (h : EH) (x y : PV) (x' y' : V) (z : PV) (h' : EH) (Q : VK), Rep K φ H h → RV K φ H x x' → RV K φ H y y' → f x y h = some (z, h') → Fi K φ H h' z Q → r x' y' H Q
theorem BinOk.or1 {K : PySem.W.Frag} {r r' : R2} {f : PV → PV → EH → Rt} (b : BinOk K r f) : BinOk K (fun x y H Q => r x y H Q ∨ r' x y H Q) f :=
  fun φ H h x y x' y' z h' Q a1 a2 a3 a4 a5 => .inl (b φ H h x y x' y' z h' Q a1 a2 a3 a4 a5)

def bOp : BOp → Operator
  | .add => .Add | .sub => .Sub | .mul => .Mult | .fdiv => .FloorDiv | .mod => .Mod | .pow => .Pow | .shl => .LShift | .shr => .RShift | .band => .BitAnd | .bor => .BitOr | .bxor => .BitXor

section
variable {X : Cx}
/-- ints alone, always -/
theorem int2_ok {op : BOp} {f : Value → Value → Sem Value} {g : Int → Int → Int} (o : OpR X f (rI0 fun i j => .int (g i j)))
    (e : ∀ x y h z h', opB op x y h = some (z, h') → ∃ i j, x = .int i ∧ y = .int j ∧ z = .int (g i j) ∧ h' = h) : ∃ r, OpR X f r ∧ BinOk X.K r (opB op) := by
  refine ⟨_, o, fun φ H h x y x' y' z h' Q r rx ry q f => ?_⟩
  obtain ⟨i, j, rfl, rfl, rfl, rfl⟩ := e _ _ _ _ _ q
  cases rx; cases ry
  exact ⟨i, j, rfl, rfl, f.here r (.int _)⟩
theorem int2_okC {op : BOp} {f : Value → Value → Sem Value} {C : Int → Int → Prop} {g : Int → Int → Int} (o : OpR X f (rI C fun i j => .int (g i j)))
    (e : ∀ x y h z h', opB op x y h = some (z, h') → ∃ i j, x = .int i ∧ y = .int j ∧ C i j ∧ z = .int (g i j) ∧ h' = h) : ∃ r, OpR X f r ∧ BinOk X.K r (opB op) := by
  refine ⟨_, o, fun φ H h x y x' y' z h' Q r rx ry q f => ?_⟩
  obtain ⟨i, j, rfl, rfl, c, rfl, rfl⟩ := e _ _ _ _ _ q
  cases rx; cases ry
  exact ⟨i, j, rfl, rfl, c, f.here r (.int _)⟩

theorem add_ok : ∃ r, OpR X (binaryOp .Add) r ∧ BinOk X.K r (opB .add) := by
  refine ⟨_, (op_add.or op_add_str).or (op_catA.or op_cat), fun φ H h x y x' y' z h' Q r rx ry q f => ?_⟩
  unfold opB at q
  split at q
  all_goals first | (rename_i hh _; cases hh; done) | skip
  all_goals try (rename_i hh; cases hh; done)
  · cases q; cases rx; cases ry
    exact .inl (.inl ⟨_, _, rfl, rfl, f.here r (.int _)⟩)
  · split at q
    · cases q; cases rx; cases ry
      exact .inl (.inr ⟨_, _, rfl, rfl, by assumption, f.here r (.str _)⟩)
    · cases q
  · unfold newT at q
    split at q
    · rename_i hz
      cases q
      cases rx with
      | tup t1 q1 =>
        cases ry with
        | tup t2 q2 =>
          have l1 := q1.length
          have l2 := q2.length
          rw [List.length_append] at hz
          refine .inr (.inl ⟨_, _, _, _, rfl, rfl, t1, t2, by omega, fun e => ?_, fun n e => ?_, fun n1 n2 p hp => ?_⟩)
          · subst e
            have : _ = [] := List.eq_nil_of_length_eq_zero (l1.trans rfl)
            subst this
            exact f.here r (.tup t2 q2)
          · subst e
            have : _ = [] := List.eq_nil_of_length_eq_zero (l2.trans rfl)
            subst this
            rw [List.append_nil] at f
            exact f.here r (.tup t1 q1)
          · exact f.tup r (q1.append q2) hp
    · cases q
  · split at q
    · rename_i e1 e2
      unfold newL at q
      split at q
      · rename_i hz
        cases q
        cases rx with
        | ref q1 =>
          cases ry with
          | ref q2 =>
            obtain ⟨vs, a1, a2⟩ := r.lst q1 e1
            obtain ⟨ws, b1, b2⟩ := r.lst q2 e2
            have l1 := a2.length
            have l2 := b2.length
            rw [List.length_append] at hz
            exact .inr (.inr ⟨_, _, _, _, rfl, rfl, a1, b1, by omega, fun p hp => f.newLst r (a2.append b2) hp⟩)
      · cases q
    · cases q
  all_goals cases q

theorem mul_ok : ∃ r, OpR X (binaryOp .Mult) r ∧ BinOk X.K r (opB .mul) := by
  refine ⟨_, ((op_mul.or op_mulW).or (op_rep.or op_repT)).or (op_repS.or op_rep0), fun φ H h x y x' y' z h' Q r rx ry q f => ?_⟩
  unfold opB at q
  split at q
  all_goals try contradiction
  · cases rx; cases ry
    split at q
    · rename_i c
      cases q
      exact .inl (.inl (.inl ⟨_, _, rfl, rfl, c, f.here r (.int _)⟩))
    · split at q
      · rename_i c
        cases q
        exact .inl (.inl (.inr ⟨_, _, rfl, rfl, c, f.here r (.int _)⟩))
      · cases q
  · split at q
    · rename_i e1
      split at q
      · rename_i c
        unfold newL at q
        split at q
        · cases q
          cases ry
          cases rx with
          | ref q1 =>
            obtain ⟨vs, a1, a2⟩ := r.lst q1 e1
            have l1 := a2.length
            exact .inl (.inr (.inl ⟨_, _, _, rfl, rfl, a1, c.1, c.2.1, by rw [← l1]; exact c.2.2, fun p hp => f.newLst r (a2.rep _) hp⟩))
        · cases q
      · cases q
    · cases q
  · split at q
    · rename_i c
      unfold newT at q
      split at q
      · cases q
        cases ry
        cases rx with
        | tup t ts =>
          rename_i xs k _ _ _ vs
          have l1 := ts.length
          by_cases c1 : vs = [] ∨ k = 1
          · refine .inr (.inl ⟨_, _, _, rfl, rfl, t, c1, c.1, c.2.1, ?_⟩)
            have ee : (List.replicate k.toNat xs).flatten = xs := by
              rcases c1 with e | e
              · subst e
                have : xs = [] := List.eq_nil_of_length_eq_zero l1
                subst this
                simp
              · subst e
                simp
            rw [ee] at f
            exact f.here r (.tup t ts)
          · have n1 : vs ≠ [] := fun z => c1 (.inl z)
            have n2 : k ≠ 1 := fun z => c1 (.inr z)
            by_cases c2 : k ≤ 0
            · refine .inr (.inr ⟨_, _, _, rfl, rfl, t, n1, c.1, c2, fun p hp => ?_⟩)
              have ee : (List.replicate k.toNat xs).flatten = [] := by
                rw [show k.toNat = 0 by omega]; rfl
              rw [ee] at f
              exact f.tup r .nil hp
            · exact .inl (.inr (.inr ⟨_, _, _, rfl, rfl, t, n1, by omega, c.2.1, by rw [← l1]; exact c.2.2, fun p hp => f.tup r (ts.rep _) hp⟩))
      · cases q
    · cases q
theorem opB_ok (o : BOp) : ∃ r, OpR X (binaryOp (bOp o)) r ∧ BinOk X.K r (opB o) := by
  cases o with
  | add => exact add_ok
  | sub =>
    refine int2_ok op_sub fun x y h z h' q => ?_
    unfold opB at q
    split at q
    all_goals try contradiction
    all_goals first | (cases q; exact ⟨_, _, rfl, rfl, rfl, rfl⟩) | cases q
  | mul => exact mul_ok
  | fdiv =>
    refine int2_okC op_fdivW fun x y h z h' q => ?_
    unfold opB at q
    split at q
    all_goals try contradiction
    split at q
    · cases q; exact ⟨_, _, rfl, rfl, by assumption, rfl, rfl⟩
    · cases q
  | mod =>
    refine int2_okC op_mod fun x y h z h' q => ?_
    unfold opB at q
    split at q
    all_goals try contradiction
    split at q
    · cases q; exact ⟨_, _, rfl, rfl, by assumption, rfl, rfl⟩
    · cases q
  | pow =>
    refine int2_okC op_pow fun x y h z h' q => ?_
    unfold opB at q
    split at q
    all_goals try contradiction
    split at q
    · cases q; exact ⟨_, _, rfl, rfl, by assumption, rfl, rfl⟩
    · cases q
  | shl =>
    refine int2_okC op_shl fun x y h z h' q => ?_
    unfold opB at q
    split at q
    all_goals try contradiction
    split at q
    · cases q; exact ⟨_, _, rfl, rfl, by assumption, rfl, rfl⟩
    · cases q
  | shr =>
    refine int2_okC op_shr fun x y h z h' q => ?_
    unfold opB at q
    split at q
    all_goals try contradiction
    split at q
    · cases q; exact ⟨_, _, rfl, rfl, by assumption, rfl, rfl⟩
    · cases q
  | band =>
    refine int2_ok op_and fun x y h z h' q => ?_
    unfold opB at q
    split at q
    all_goals try contradiction
    all_goals first | (cases q; exact ⟨_, _, rfl, rfl, rfl, rfl⟩) | cases q
  | bor =>
    refine int2_ok op_or fun x y h z h' q => ?_
    unfold opB at q
    split at q
    all_goals try contradiction
    all_goals first | (cases q; exact ⟨_, _, rfl, rfl, rfl, rfl⟩) | cases q
  | bxor =>
    refine int2_ok op_xor fun x y h z h' q => ?_
    unfold opB at q
    split at q
    all_goals try contradiction
    all_goals first | (cases q; exact ⟨_, _, rfl, rfl, rfl, rfl⟩) | cases q

/-! ### comparisons -/
def cOp : COp → CmpOp
  | .eq => .Eq | .ne => .NotEq | .lt => .Lt | .le => .LtE | .gt => .Gt | .ge => .GtE | .isIn => .In | .notIn => .NotIn | .is => .Is | .isNot => .IsNot
/-- a comparison by values, and the evaluator's -/
def CmpOk (K : PySem.W.Frag) (r : R2) (f : PV → PV → EH → Option Bool) : Prop :=
  ∀ (φ : List Addr) (H : Hp) (h : EH) (x y : PV) (x' y' : V) (b : Bool) (Q : VK), Rep K φ H h → RV K φ H x x' → RV K φ H y y' → f x y h = some b → Q (.bl b) H → r x' y' H Q
theorem eqD_ok {K : PySem.W.Frag} {φ : List Addr} {H : Hp} {h : EH} {x y : PV} {x' y' : V} {b : Bool} (r : Rep K φ H h) (rx : RV K φ H x x') (ry : RV K φ H y y') (q : eqD h x y = some b) :
    ∃ d e, Dp K H x' d ∧ Dp K H y' e ∧ SeqAt.shaped d = true ∧ SeqAt.shaped e = true ∧ b = PyData.eqv d e := by
  unfold eqD at q
  split at q
  · rename_i d e hd he
    split at q
    · rename_i c
      cases q
      exact ⟨d, e, toD_ok r _ _ _ _ hd rx, toD_ok r _ _ _ _ he ry, c.1, c.2, rfl⟩
    · cases q
  · cases q
theorem eq_ok (hu : X.A.units + 64 < cLine) : ∃ r, OpR X (compareOp .Eq) r ∧ CmpOk X.K r (opC .eq) := by
  refine ⟨_, op_eqD hu, fun φ H h x y x' y' b Q r rx ry q f => ?_⟩
  have q : eqD h x y = some b := by simpa [opC] using q
  obtain ⟨d, e, h1, h2, h3, h4, rfl⟩ := eqD_ok r rx ry q
  exact ⟨d, e, h1, h2, h3, h4, f⟩
theorem ne_ok (hu : X.A.units + 64 < cLine) : ∃ r, OpR X (compareOp .NotEq) r ∧ CmpOk X.K r (opC .ne) := by
  refine ⟨_, op_neD hu, fun φ H h x y x' y' b Q r rx ry q f => ?_⟩
  have q : (eqD h x y).map (!·) = some b := by simpa [opC] using q
  obtain ⟨b', q1, rfl⟩ := Option.map_eq_some_iff.mp q
  obtain ⟨d, e, h1, h2, h3, h4, rfl⟩ := eqD_ok r rx ry q1
  exact ⟨d, e, h1, h2, h3, h4, f⟩
theorem ints_ok {o : COp} {f : Value → Value → Sem Value} {g : Int → Int → Bool} (hf : OpR X f (rI0 fun i j => .bl (g i j)))
    (e : ∀ x y h b, opC o x y h = some b → ∃ i j, x = .int i ∧ y = .int j ∧ b = g i j) : ∃ r, OpR X f r ∧ CmpOk X.K r (opC o) := by
  refine ⟨_, hf, fun φ H h x y x' y' b Q r rx ry q f => ?_⟩
  obtain ⟨i, j, rfl, rfl, rfl⟩ := e _ _ _ _ q
  cases rx; cases ry
  exact ⟨i, j, rfl, rfl, f⟩

/-! ### in -/
def rInT (K : PySem.W.Frag) (neg : Bool) : R2 := fun x y H Q => ∃ d ds, Dp K H x d ∧ Dp K H y (.tuple ds) ∧ SeqAt.shaped d = true ∧ SeqAt.shaped (.list ds) = true ∧ Q (.bl ((ds.any fun z => PyData.eqv z d) != neg)) H
theorem op_inT (hu : X.A.units + 65 < cLine) : OpR X (compareOp .In) (rInT X.K false) := by
  intro pins s σ H x y v u Q I rx ry ⟨d, ds, hd, he, sd, se, q⟩
  obtain ⟨as, r1⟩ := Dp.reads I d x v hd rx
  obtain ⟨bs, r2⟩ := Dp.reads I (.tuple ds) y u he ry
  have e1 : ((ds.any fun z => PyData.eqv z d) != false) = ds.any fun z => PyData.eqv z d := by simp
  rw [e1] at q
  refine SeqAt.in_tuple_reads r2 r1 (SeqAt.canLay_of_shaped se) (SeqAt.canLay_of_shaped sd) ?_ ⟨.bl _, H, I, rfl, q⟩
  exact PyProof.Rows.room_in_shaped sd hu
theorem op_notInT (hu : X.A.units + 65 < cLine) : OpR X (compareOp .NotIn) (rInT X.K true) := by
  intro pins s σ H x y v u Q I rx ry ⟨d, ds, hd, he, sd, se, q⟩
  obtain ⟨as, r1⟩ := Dp.reads I d x v hd rx
  obtain ⟨bs, r2⟩ := Dp.reads I (.tuple ds) y u he ry
  have e1 : ((ds.any fun z => PyData.eqv z d) != true) = !ds.any fun z => PyData.eqv z d := by simp
  rw [e1] at q
  refine SeqAt.notIn_tuple_reads r2 r1 (SeqAt.canLay_of_shaped se) (SeqAt.canLay_of_shaped sd) ?_ ⟨.bl _, H, I, rfl, q⟩
  exact PyProof.Rows.room_in_shaped sd hu
def rInDict (neg : Bool) : R2 := fun x y H Q => ∃ a o, y = .ref a ∧ DGet H a x o ∧ Q (.bl (o.isSome != neg)) H
theorem op_inDict (hu : X.A.units + 1 < cLine) : OpR X (compareOp .In) (rInDict false) := by
  intro pins s σ H x y v u Q I rx ry ⟨a, o, ey, g, q⟩
  subst ey
  obtain rfl : u = Value.ref a := ry
  have e1 : (o.isSome != false) = o.isSome := by simp
  rw [e1] at q
  exact d_in hu I g rx fun s' I' => ⟨.bl _, H, I', rfl, q⟩
theorem op_notInDict (hu : X.A.units + 1 < cLine) : OpR X (compareOp .NotIn) (rInDict true) := by
  intro pins s σ H x y v u Q I rx ry ⟨a, o, ey, g, q⟩
  subst ey
  obtain rfl : u = Value.ref a := ry
  have e1 : (o.isSome != true) = !o.isSome := by simp
  rw [e1] at q
  exact d_notIn hu I g rx fun s' I' => ⟨.bl _, H, I', rfl, q⟩
section
variable {K : PySem.W.Frag} {φ : List Addr} {H : Hp} {h : EH}
theorem keyOf_V {p : PV} {k : Key} {v : V} (q : RV K φ H p v) (e : keyOf p = some k) : v = kV k := by
  cases q <;> simp [keyOf] at e <;> subst e <;> rfl
theorem keyOf_inj {p q : PV} {k : Key} (e : keyOf p = some k) (e' : keyOf q = some k) : p = q := by
  cases p <;> simp [keyOf] at e <;> subst e <;> cases q <;> simp [keyOf] at e' <;> subst e' <;> rfl
theorem keyOf_dec {p q : PV} {k j : Key} (e : keyOf p = some k) (e' : keyOf q = some j) : (p = q) ↔ (k = j) := by
  constructor
  · intro z; subst z; rw [e] at e'; exact Option.some.inj e'
  · intro z; subst z; exact keyOf_inj e e'
theorem dget_ok {ps : List (PV × PV)} {vs : List (Key × V)} (q : RKs K φ H ps vs) {p : PV} {k : Key} (e : keyOf p = some k) :
    (∀ x, dget ps p = some x → ∃ v, valV vs k = some v ∧ RV K φ H x v) ∧ (dget ps p = none → valV vs k = none) := by
  induction q with
  | nil => exact ⟨fun x z => (by cases z), fun _ => rfl⟩
  | @cons a j x v ps vs ea rx t ih =>
    have d := keyOf_dec ea e
    unfold dget
    by_cases c : a = p
    · rw [if_pos c, valV_pos (d.mp c)]
      exact ⟨fun y z => (by cases z; exact ⟨v, rfl, rx⟩), fun z => (by cases z)⟩
    · rw [if_neg c, valV_neg (fun z => c (d.mpr z))]
      exact ih
theorem dget_isSome {ps : List (PV × PV)} {vs : List (Key × V)} (q : RKs K φ H ps vs) {p : PV} {k : Key} (e : keyOf p = some k) : (dget ps p).isSome = (valV vs k).isSome := by
  obtain ⟨g1, g2⟩ := dget_ok q e
  cases c : dget ps p with
  | none => rw [g2 c]; rfl
  | some x => obtain ⟨v, e1, _⟩ := g1 x c; rw [e1]; rfl
theorem dput_ok {ps : List (PV × PV)} {vs : List (Key × V)} (q : RKs K φ H ps vs) {p x : PV} {k : Key} {v : V} (e : keyOf p = some k) (rx : RV K φ H x v) : RKs K φ H (dput ps p x) (putK vs k v) := by
  unfold dput putK
  rw [dget_isSome q e, ← valV_any]
  by_cases c : (vs.any fun kv => decide (kv.1 = k)) = true
  · rw [if_pos c, if_pos c]
    clear c
    induction q with
    | nil => exact .nil
    | @cons a j y w ps vs ea ry t ih =>
      rw [List.map_cons, List.map_cons]
      have d := keyOf_dec ea e
      by_cases c : a = p
      · rw [if_pos c, if_pos (show (j, w).1 = k from d.mp c)]
        exact .cons ea rx ih
      · rw [if_neg c, if_neg (show ¬ (j, w).1 = k from fun z => c (d.mpr z))]
        exact .cons ea ry ih
  · rw [if_neg c, if_neg c]
    clear c
    induction q with
    | nil => exact .cons e rx .nil
    | cons ea ry t ih => exact .cons ea ry ih
theorem ddel_ok {ps : List (PV × PV)} {vs : List (Key × V)} (q : RKs K φ H ps vs) {p : PV} {k : Key} (e : keyOf p = some k) : RKs K φ H (ddel ps p) (dropK vs k) := by
  unfold ddel dropK
  induction q with
  | nil => exact .nil
  | @cons a j y w ps vs ea ry t ih =>
    rw [List.filter_cons, List.filter_cons]
    have d := keyOf_dec ea e
    by_cases c : a = p
    · have c' := d.mp c
      simp only [c, c', ne_eq, not_true_eq_false, decide_false, Bool.false_eq_true, if_false]
      exact ih
    · have c' : ¬ j = k := fun z => c (d.mpr z)
      simp only [c, c', ne_eq, not_false_eq_true, decide_true, if_true]
      exact .cons ea ry ih
theorem dput_len (ps : List (PV × PV)) (p x : PV) : (dput ps p x).length ≤ ps.length + 1 := by
  unfold dput
  split
  · rw [List.length_map]; omega
  · rw [List.length_append]; simp
theorem dmerge_ok {qs : List (PV × PV)} {ws : List (Key × V)} (t : RKs K φ H qs ws) : ∀ {ps : List (PV × PV)} {vs : List (Key × V)}, RKs K φ H ps vs → RKs K φ H (dmerge ps qs) (mergeK vs ws) := by
  induction t with
  | nil => intro ps vs q; exact q
  | cons e rx t ih =>
    intro ps vs q
    exact ih (dput_ok q e rx)
end
theorem inD_ok {K : PySem.W.Frag} {φ : List Addr} {H : Hp} {h : EH} {x : PV} {ys : List PV} {x' : V} {vs : List V} {b : Bool} (r : Rep K φ H h) (rx : RV K φ H x x') (ry : RVs K φ H ys vs) (q : inD h x ys = some b) :
    ∃ d ds, Dp K H x' d ∧ DpAll K H vs ds ∧ SeqAt.shaped d = true ∧ SeqAt.shaped (.list ds) = true ∧ b = ds.any fun z => PyData.eqv z d := by
  unfold inD at q
  split at q
  · rename_i d ds hd he
    split at q
    · rename_i c
      cases q
      exact ⟨d, ds, toD_ok r _ _ _ _ hd rx, toDs _ (toD_ok r _) _ _ _ he ry, c.1, c.2, rfl⟩
    · cases q
  · cases q
theorem isIn_ok {neg : Bool} {rs rd : R2}
    (s1 : ∀ (x y : Str) (H : Hp) (Q : VK), Q (.bl ((!(Builtin.Str.occurrences y x 0 y.length 1).isEmpty) != neg)) H → rs (.str x) (.str y) H Q)
    (s2 : ∀ (x y : V) (d : PyData) (ds : List PyData) (H : Hp) (Q : VK), Dp X.K H x d → Dp X.K H y (.list ds) → SeqAt.shaped d = true → SeqAt.shaped (.list ds) = true → Q (.bl ((ds.any fun z => PyData.eqv z d) != neg)) H → rd x y H Q) :
    CmpOk X.K (fun x y H Q => ((rs x y H Q ∨ rd x y H Q) ∨ (rInT X.K neg x y H Q ∨ rInDict neg x y H Q)) ∨ rInS neg x y H Q) (fun x y h => (isIn h x y).map (· != neg)) := by
  intro φ H h x y x' y' b Q r rx ry q f
  obtain ⟨b0, q1, rfl⟩ := Option.map_eq_some_iff.mp q
  clear q
  have q := q1; clear q1
  unfold isIn at q
  split at q
  · split at q
    · cases q; cases rx; cases ry; exact .inl (.inl (.inl (s1 _ _ _ _ f)))
    · cases q
  · cases ry with
    | tup t ts =>
      obtain ⟨d, ds, h1, h2, h3, h4, rfl⟩ := inD_ok r rx ts q
      exact .inl (.inr (.inl ⟨d, ds, h1, .tup t h2, h3, h4, f⟩))
  · cases ry with
    | fl t ts =>
      obtain ⟨d, ds, h1, h2, h3, h4, rfl⟩ := inD_ok r rx ts q
      exact .inl (.inl (.inr (s2 _ _ d ds _ _ h1 (.lst t.sq h2) h3 h4 f)))
  · cases ry with
    | ref e =>
      split at q
      · rename_i l
        obtain ⟨vs, e1, e2⟩ := r.lst e l
        obtain ⟨d, ds, h1, h2, h3, h4, rfl⟩ := inD_ok r rx e2 q
        exact .inl (.inl (.inr (s2 _ _ d ds _ _ h1 (.lst (SqL.of e1) h2) h3 h4 f)))
      · rename_i l
        split at q
        · rename_i k hk
          cases q
          obtain ⟨vs, e1, e2⟩ := r.dict e l
          have e3 := keyOf_V rx hk
          subst e3
          refine .inl (.inr (.inr ⟨_, _, rfl, DGet.k e1, ?_⟩))
          rw [← dget_isSome e2 hk]
          exact f
        · cases q
      · rename_i l
        split at q
        · rename_i k hk
          cases q
          obtain ⟨o, vs, e1, e2⟩ := r.fdict e l
          have e3 := keyOf_V rx hk
          subst e3
          refine .inl (.inr (.inr ⟨_, _, rfl, DGet.kf e1, ?_⟩))
          rw [← dget_isSome e2 hk]
          exact f
        · cases q
      · rename_i l
        split at q
        · cases q
          obtain ⟨c, e1⟩ := r.ob _ _ _ e l
          cases rx
          exact .inr ⟨_, _, _, _, rfl, rfl, e1, f⟩
        · cases q
      · cases q
  · cases q
theorem in_ok (hu : X.A.units + 65 < cLine) : ∃ r, OpR X (compareOp .In) r ∧ CmpOk X.K r (opC .isIn) := by
  refine ⟨_, ((op_in_str.or (op_inD hu)).or ((op_inT hu).or (op_inDict (by omega)))).or op_inS, ?_⟩
  have z : opC .isIn = fun x y h => (isIn h x y).map (· != false) := by
    funext x y h
    have e : (fun b : Bool => b != false) = id := by funext b; cases b <;> rfl
    rw [e, Option.map_id]; rfl
  rw [z]
  refine isIn_ok (fun x y H Q q => ⟨x, y, rfl, rfl, by simpa using q⟩) (fun x y d ds H Q h1 h2 h3 h4 q => ⟨d, ds, h1, h2, h3, h4, by simpa using q⟩)
theorem notIn_ok (hu : X.A.units + 65 < cLine) : ∃ r, OpR X (compareOp .NotIn) r ∧ CmpOk X.K r (opC .notIn) := by
  refine ⟨_, ((op_notin_str.or (op_notInD hu)).or ((op_notInT hu).or (op_notInDict (by omega)))).or op_notInS, ?_⟩
  have z : opC .notIn = fun x y h => (isIn h x y).map (· != true) := by
    funext x y h
    have e : (fun b : Bool => b != true) = (!·) := by funext b; cases b <;> rfl
    rw [e]; rfl
  rw [z]
  refine isIn_ok (fun x y H Q q => ⟨x, y, rfl, rfl, by simpa using q⟩) (fun x y d ds H Q h1 h2 h3 h4 q => ⟨d, ds, h1, h2, h3, h4, by simpa using q⟩)

/-! ### is -/
theorem is_ok : ∃ r, OpR X (compareOp .Is) r ∧ CmpOk X.K r (opC .is) := by
  refine ⟨_, op_isN.or op_isBl, fun φ H h x y x' y' b Q r rx ry q f => ?_⟩
  have q1 : isAt x y = some b := q
  clear q
  have q := q1; clear q1
  unfold isAt at q
  split at q
  · cases q; cases rx; cases ry; exact .inl ⟨rfl, f⟩
  · rename_i hn
    cases q; cases ry
    refine .inl ⟨rfl, ?_⟩
    have : decide (x' = V.non) = false := by
      cases rx <;> first | rfl | exact (hn rfl rfl).elim | exact (hn rfl).elim
    rw [this]; exact f
  · cases q; cases rx; cases ry; exact .inr ⟨_, _, rfl, rfl, f⟩
  · cases q
theorem isNot_ok : ∃ r, OpR X (compareOp .IsNot) r ∧ CmpOk X.K r (opC .isNot) := by
  refine ⟨_, op_notN.or op_notBl, fun φ H h x y x' y' b Q r rx ry q f => ?_⟩
  have q1 : (isAt x y).map (!·) = some b := q
  clear q
  obtain ⟨b0, q, rfl⟩ := Option.map_eq_some_iff.mp q1
  clear q1
  unfold isAt at q
  split at q
  · cases q; cases rx; cases ry; exact .inl ⟨rfl, f⟩
  · rename_i hn
    cases q; cases ry
    refine .inl ⟨rfl, ?_⟩
    have : decide (x' = V.non) = false := by
      cases rx <;> first | rfl | exact (hn rfl rfl).elim | exact (hn rfl).elim
    rw [this]; exact f
  · cases q; cases rx; cases ry; exact .inr ⟨_, _, rfl, rfl, f⟩
  · cases q
theorem opC_ok (hu : X.A.units + 65 < cLine) (o : COp) : ∃ r, OpR X (compareOp (cOp o)) r ∧ CmpOk X.K r (opC o) := by
  cases o with
  | eq => exact eq_ok (by omega)
  | ne => exact ne_ok (by omega)
  | lt =>
    refine ints_ok op_lt fun x y h b q => ?_
    cases x <;> cases y <;> simp [opC] at q
    exact ⟨_, _, rfl, rfl, q.symm⟩
  | le =>
    refine ints_ok op_le fun x y h b q => ?_
    cases x <;> cases y <;> simp [opC] at q
    exact ⟨_, _, rfl, rfl, q.symm⟩
  | gt =>
    refine ints_ok op_gt fun x y h b q => ?_
    cases x <;> cases y <;> simp [opC] at q
    exact ⟨_, _, rfl, rfl, q.symm⟩
  | ge =>
    refine ints_ok op_ge fun x y h b q => ?_
    cases x <;> cases y <;> simp [opC] at q
    exact ⟨_, _, rfl, rfl, q.symm⟩
  | isIn => exact in_ok hu
  | notIn => exact notIn_ok hu
  | is => exact is_ok
  | isNot => exact isNot_ok
end
end EV

set_option Elab.async false
set_option linter.all false
set_option maxRecDepth 100000
set_option maxHeartbeats 4000000
/-! EV4: subscripts, slices, built-ins, methods, truth. -/
namespace EV
open PySem PySem.Spec L2
section
variable {X : Cx}
theorem seqAt_ok {K : PySem.W.Frag} {φ : List Addr} {H : Hp} {xs : List PV} {vs : List V} {i : Int} {p : PV} (q : RVs K φ H xs vs) (e : seqAt xs i = some p) : ∃ v, atI vs i = some v ∧ RV K φ H p v := by
  have l := q.length
  have key : ∀ j : Nat, xs[j]? = some p → ixN vs.length i = some j → ∃ v, atI vs i = some v ∧ RV K φ H p v := fun j e1 e2 => by
    obtain ⟨v, a1, a2⟩ := q.get e1
    refine ⟨v, ?_, a2⟩
    unfold atI
    rw [e2]
    exact a1
  have lt : ∀ j : Nat, xs[j]? = some p → j < xs.length := fun j e1 => by
    rcases Nat.lt_or_ge j xs.length with c | c
    · exact c
    · rw [List.getElem?_eq_none c] at e1; cases e1
  unfold seqAt at e
  split at e
  · split at e
    · refine key _ e ?_
      unfold ixN
      rw [if_neg (by omega), if_pos (by omega), ← l]
    · cases e
  · refine key _ e ?_
    have := lt _ e
    unfold ixN
    rw [if_pos (by omega), if_pos (by omega)]
def rIxDict : R2 := fun x y H Q => ∃ a v, x = .ref a ∧ DGet H a y (some v) ∧ Q v H
theorem ix_dict (hu : X.A.units + 1 < cLine) : IxR X rIxDict := by
  intro value slice pins s σ H x y v u Q I rx ry ⟨a, r, ex, g, q⟩ hs
  subst ex
  obtain rfl : v = Value.ref a := rx
  exact PyProof.Rows.tail_any (dict_typeIs I g) PySem.F.slot_dict_getitem.lookup (d_getItem hu I g ry fun w' s' I' r' => ⟨r, H, I', r', q⟩) hs
theorem ix_ok (hu : X.A.units + 1 < cLine) : ∃ r, IxR X r ∧ BinOk X.K r (fun x y h => (opIx x y h).map (·, h)) := by
  refine ⟨_, ix_seq.or (ix_dict hu), fun φ H h x y x' y' zz h' Q r rx ry q f => ?_⟩
  obtain ⟨w, q1, e⟩ := Option.map_eq_some_iff.mp q
  cases e
  clear q
  have q := q1; clear q1
  unfold opIx at q
  split at q
  · cases ry
    cases rx with
    | tup t ts =>
      obtain ⟨v, e1, e2⟩ := seqAt_ok ts q
      exact .inl (.inr (.inl ⟨_, _, _, v, rfl, rfl, t, e1, f.here r e2⟩))
  · cases ry
    cases rx with
    | fl t ts =>
      obtain ⟨v, e1, e2⟩ := seqAt_ok ts q
      exact .inl (.inl ⟨_, _, _, v, rfl, rfl, t.sq, e1, f.here r e2⟩)
  · cases ry
    cases rx
    rename_i z i
    split at q
    · rename_i hz
      have hl : z.cps.toList.length = z.length := by simp [Str.length]
      have fin : ∀ j : Nat, (z.cps.toList[j]?).map (fun c => PV.str ⟨#[c]⟩) = some zz → ixN z.cps.toList.length i = some j → rIxS (.str z) (.int i) H Q := fun j e1 e2 => by
        obtain ⟨c, e3, rfl⟩ := Option.map_eq_some_iff.mp e1
        refine ⟨_, _, c, rfl, rfl, hz, ?_, f.here r (.str _)⟩
        unfold atI
        rw [e2]
        exact e3
      refine .inl (.inr (.inr ?_))
      split at q
      · split at q
        · refine fin _ q ?_
          unfold ixN
          rw [if_neg (by omega), if_pos (by omega), hl]
        · cases q
      · have lt : i.toNat < z.cps.toList.length := by
          rcases Nat.lt_or_ge i.toNat z.cps.toList.length with c | c
          · exact c
          · rw [List.getElem?_eq_none c] at q; cases q
        refine fin _ q ?_
        unfold ixN
        rw [if_pos (by omega), if_pos (by omega)]
    · cases q
  · cases rx with
    | ref e =>
      split at q
      · rename_i l
        split at q
        · cases ry
          obtain ⟨vs, a1, a2⟩ := r.lst e l
          obtain ⟨v, e1, e2⟩ := seqAt_ok a2 q
          exact .inl (.inl ⟨_, _, _, v, rfl, rfl, SqL.of a1, e1, f.here r e2⟩)
        · cases q
      · rename_i l
        split at q
        · rename_i k hk
          obtain ⟨vs, a1, a2⟩ := r.dict e l
          have e3 := keyOf_V ry hk
          subst e3
          obtain ⟨v, e1, e2⟩ := (dget_ok a2 hk).1 _ q
          refine .inr ⟨_, v, rfl, ?_, f.here r e2⟩
          rw [← e1]
          exact DGet.k a1
        · cases q
      · rename_i l
        split at q
        · rename_i k hk
          obtain ⟨o, vs, a1, a2⟩ := r.fdict e l
          have e3 := keyOf_V ry hk
          subst e3
          obtain ⟨v, e1, e2⟩ := (dget_ok a2 hk).1 _ q
          refine .inr ⟨_, v, rfl, ?_, f.here r e2⟩
          rw [← e1]
          exact DGet.kf a1
        · cases q
      · cases q
      · cases q
  · cases q

/-! ### slices -/
theorem cutV_ok {K : PySem.W.Frag} {φ : List Addr} {H : Hp} {xs : List PV} {vs : List V} (q : RVs K φ H xs vs) (lo hi : Option Int) : RVs K φ H (cutP xs lo hi) (cutV vs lo hi) := by
  unfold cutP cutV
  rw [← q.length]
  exact (q.drop _).take _
theorem partOf_ok {K : PySem.W.Frag} {φ : List Addr} {H : Hp} {b : Bool} {p : PV} {v : V} {o : Option Int} (q : RV K φ H p v) (e : partOf b p = some o) : (b = false ∧ o = none) ∨ ∃ i, b = true ∧ v = .int i ∧ o = some i := by
  cases b <;> cases q <;> simp [partOf] at e
  · subst e; exact .inl ⟨rfl, rfl⟩
  · subst e; exact .inr ⟨_, rfl, rfl, rfl⟩
def SlOk (K : PySem.W.Frag) (r : V → Option Int → Option Int → Hp → VK → Prop) : Prop :=
  ∀ (φ : List Addr) (H : Hp) (h : EH) (x : PV) (x' : V) (lo hi : Option Int) (z : PV) (h' : EH) (Q : VK), Rep K φ H h → RV K φ H x x' → opSl x lo hi h = some (z, h') → Fi K φ H h' z Q → r x' lo hi H Q
theorem sl_ok : ∃ r, SlR X r ∧ SlOk X.K r := by
  refine ⟨_, sl_tupA.or sl_list, fun φ H h x x' lo hi z h' Q r rx q f => ?_⟩
  unfold opSl at q
  split at q
  · cases q
    cases rx with
    | tup t ts =>
      refine .inl ⟨_, _, rfl, t, fun c => ?_, fun c p hp => f.tup r (cutV_ok ts lo hi) hp⟩
      refine f.here r (.tup t ?_)
      have z := cutV_ok ts lo hi
      unfold cutV at z
      rw [c.1, c.2] at z
      simpa using z
  · cases q
    cases rx with
    | fl t ts => exact .inr ⟨_, _, rfl, t.sq, fun p hp => f.newLst r (cutV_ok ts lo hi) hp⟩
  · split at q
    · rename_i l
      cases q
      cases rx with
      | ref e =>
        obtain ⟨vs, a1, a2⟩ := r.lst e l
        exact .inr ⟨_, _, rfl, SqL.of a1, fun p hp => f.newLst r (cutV_ok a2 lo hi) hp⟩
    · cases q
  · cases q

/-! ### o[i] = v -/
theorem PSet.or {t t' : TSet} (h : PSet X t) (h' : PSet X t') : PSet X (fun o i v H Q => t o i v H Q ∨ t' o i v H Q) := by
  intro pins s σ H o i v ov iv u Q I ro ri rv q
  rcases q with q | q
  · exact h pins s σ H o i v ov iv u Q I ro ri rv q
  · exact h' pins s σ H o i v ov iv u Q I ro ri rv q
def rSetDict : TSet := fun o i v H Q => ∃ a H', o = .ref a ∧ DPut H a i v H' ∧ Q H'
theorem set_dict (hu : X.A.units + 1 < cLine) : PSet X rSetDict := by
  intro pins s σ H o i v ov iv u Q I ro ri rv ⟨a, H', eo, g, q⟩
  subst eo
  obtain rfl : ov = Value.ref a := ro
  exact d_setItem hu I g ri rv fun s' I' => ⟨H', I', q⟩
def SetOk (K : PySem.W.Frag) (t : TSet) : Prop :=
  ∀ (φ : List Addr) (H : Hp) (h : EH) (o i v : PV) (o' i' v' : V) (h' : EH) (Q : Hp → Prop), Rep K φ H h → RV K φ H o o' → RV K φ H i i' → RV K φ H v v' → setIx o i v h = some h' →
    (∀ φ' H', Ext φ H φ' H' → Rep K φ' H' h' → Q H') → t o' i' v' H Q
theorem set_ok (hu : X.A.units + 1 < cLine) : ∃ t, PSet X t ∧ SetOk X.K t := by
  refine ⟨_, PSet.or set_list (set_dict hu), fun φ H h o i v o' i' v' h' Q r ro ri rv q f => ?_⟩
  unfold setIx at q
  split at q
  · cases ro with
    | ref e =>
      split at q
      · rename_i l
        obtain ⟨vs, a1, a2⟩ := r.lst e l
        have len := a2.length
        split at q
        · cases ri
          split at q
          · split at q
            · cases q
              refine .inl ⟨_, _, _, _, rfl, rfl, a1, ?_, f φ _ (Ext.set (mem_at e) a1) (r.setLst e a1 (a2.set _ rv))⟩
              unfold ixN
              rw [if_neg (by omega), if_pos (by omega), ← len]
            · cases q
          · split at q
            · cases q
              refine .inl ⟨_, _, _, _, rfl, rfl, a1, ?_, f φ _ (Ext.set (mem_at e) a1) (r.setLst e a1 (a2.set _ rv))⟩
              unfold ixN
              rw [if_pos (by omega), if_pos (by omega)]
            · cases q
        · cases q
      · rename_i l
        obtain ⟨vs, a1, a2⟩ := r.dict e l
        split at q
        · rename_i k hk
          split at q
          · cases q
            have e3 := keyOf_V ri hk
            subst e3
            exact .inr ⟨_, _, rfl, DPut.k a1 (by rw [← a2.length]; assumption), f φ _ (Ext.set (mem_at e) a1) (r.setDict e a1 (dput_ok a2 hk rv))⟩
          · cases q
        · cases q
      · cases q
      · cases q
      · cases q
  · cases q

/-! ### o[i] op= v -/
theorem get_list : PGet X (rIxL X.K) := by
  intro pins s σ H x y v u Q I rx ry h
  obtain ⟨p, xs, i, z, rfl, rfl, hq, he, q⟩ := h
  cases rx
  obtain ⟨t, rfl⟩ := ry
  obtain ⟨its, r, pl, hz⟩ := I.list hq
  obtain ⟨j, h1, h2, h3, h4, h5⟩ := atI_get he
  obtain ⟨w, ew, rw'⟩ := r.get h2
  have hl := r.length
  have hn := line63
  have fin : EP X pins σ Q w s := ⟨z, H, I, rw', q⟩
  by_cases h0 : 0 ≤ i
  · have hj : i.toNat = j := by
      rw [seqIndex_of h0 h5] at h1
      exact Option.some.inj h1
    exact wpAny_getItem_list pl.isList h0 (by omega) (by rw [hj]; simpa using ew) fin
  · have hj : (i + (its.toArray.size : Int)).toNat = j := by
      rw [seqIndex_neg (by omega) h4] at h1
      rw [List.size_toArray, ← hl]
      exact Option.some.inj h1
    exact wpAny_getItem_list_neg pl.isList (by omega) (by rw [List.size_toArray] <;> omega) (by omega) (by rw [hj]; simpa using ew) fin
theorem get_dict (hu : X.A.units + 1 < cLine) : PGet X rIxDict := by
  intro pins s σ H x y v u Q I rx ry ⟨a, r, ex, g, q⟩
  subst ex
  obtain rfl : v = Value.ref a := rx
  exact d_getItem hu I g ry fun w' s' I' r' => ⟨r, H, I', r', q⟩
theorem PGet.or {r r' : V → V → Hp → VK → Prop} (h : PGet X r) (h' : PGet X r') : PGet X (fun x y H Q => r x y H Q ∨ r' x y H Q) := by
  intro pins s σ H x y v u Q I rx ry q
  rcases q with q | q
  · exact h pins s σ H x y v u Q I rx ry q
  · exact h' pins s σ H x y v u Q I rx ry q
def GetOk (K : PySem.W.Frag) (r : V → V → Hp → VK → Prop) : Prop :=
  ∀ (φ : List Addr) (H : Hp) (h : EH) (x y : PV) (x' y' : V) (v : PV) (Q : VK), Rep K φ H h → RV K φ H x x' → RV K φ H y y' → opGx x y h = some v → (∀ w, RV K φ H v w → Q w H) → r x' y' H Q
theorem get_ok (hu : X.A.units + 1 < cLine) : ∃ r, PGet X r ∧ GetOk X.K r := by
  refine ⟨_, PGet.or get_list (get_dict hu), fun φ H h x y x' y' z Q r rx ry q f => ?_⟩
  unfold opGx at q
  split at q
  · cases rx with
    | ref e =>
      unfold opIx at q
      simp only at q
      split at q
      · rename_i l
        split at q
        · cases ry
          obtain ⟨vs, a1, a2⟩ := r.lst e l
          obtain ⟨v, e1, e2⟩ := seqAt_ok a2 q
          exact .inl ⟨_, _, _, v, rfl, rfl, SqL.of a1, e1, f _ e2⟩
        · cases q
      · rename_i l
        split at q
        · rename_i k hk
          obtain ⟨vs, a1, a2⟩ := r.dict e l
          have e3 := keyOf_V ry hk
          subst e3
          obtain ⟨v, e1, e2⟩ := (dget_ok a2 hk).1 _ q
          refine .inr ⟨_, v, rfl, ?_, f _ e2⟩
          rw [← e1]
          exact DGet.k a1
        · cases q
      · rename_i l
        split at q
        · rename_i k hk
          obtain ⟨o, vs, a1, a2⟩ := r.fdict e l
          have e3 := keyOf_V ry hk
          subst e3
          obtain ⟨v, e1, e2⟩ := (dget_ok a2 hk).1 _ q
          refine .inr ⟨_, v, rfl, ?_, f _ e2⟩
          rw [← e1]
          exact .inl ⟨_, _, .inr ⟨_, a1⟩, rfl, rfl⟩
        · cases q
      · cases q
      · cases q
  · cases q

/-! ### truth -/
theorem truth_ok {K : PySem.W.Frag} {φ : List Addr} {H : Hp} {h : EH} {x : PV} {x' : V} {b : Bool} (r : Rep K φ H h) (rx : RV K φ H x x') (q : truth h x = some b) : TruV K x' H b := by
  cases rx with
  | non => cases q; exact rfl
  | bl _ => cases q; exact rfl
  | int _ => cases q; exact rfl
  | str _ =>
    simp only [truth] at q
    split at q
    · cases q; exact ⟨by assumption, rfl⟩
    · cases q
  | tup t ts => cases q; exact .inr (.inl ⟨_, t, by rw [ts.isEmpty]⟩)
  | fl t ts => cases q; exact .inl ⟨_, t.sq, by rw [ts.isEmpty]⟩
  | ref e =>
    simp only [truth] at q
    split at q
    · rename_i l
      cases q
      obtain ⟨vs, a1, a2⟩ := r.lst e l
      exact .inl ⟨_, SqL.of a1, by rw [a2.isEmpty]⟩
    · rename_i l
      cases q
      obtain ⟨vs, a1, a2⟩ := r.dict e l
      exact .inr (.inr ⟨_, a1, by rw [a2.isEmpty]⟩)
    · cases q
    · cases q
    · cases q
end
end EV

set_option Elab.async false
set_option linter.all false
set_option maxRecDepth 100000
set_option maxHeartbeats 2000000
/-! EVZ: zip of two sequences, each a list or a tuple, for a target of several names. -/
namespace EV
open PySem PySem.Spec L2 PyProof.Rows

/-- a list (false), a tuple (true) -/
def SqK (k : Bool) (K : PySem.W.Frag) (H : Hp) (a : Addr) (xs : List V) : Prop := match k with
  | true => SqT K H a xs
  | false => SqL K H a xs
def ItK (k : Bool) (h : Heap) (it a : Addr) (i : Nat) : Prop := match k with
  | true => h.IsTupleIter it a i
  | false => h.IsListIter it a i
def OnK (k : Bool) (h : Heap) (a : Addr) (items : Array Value) : Prop := match k with
  | true => h.IsTuple a items
  | false => h.IsList a items
def itObj (k : Bool) (a : Addr) : Obj := { cls := .type (match k with | true => "tuple_iterator" | false => "list_iterator"), data := .fields #[.ref a, .int 0 0] }
theorem drawsK {P : Program} {w : World} {A : Around} (k : Bool) (hh : A.handled = none) (it a : Addr) (ne : a ≠ it) (items : Array Value) :
    Draws P w A it [it, a] items.size (fun i v => items[i]? = some v) (fun i h => ItK k h it a i ∧ OnK k h a items) := by
  cases k
  · exact Draws.list hh it a ne items
  · exact Draws.tuple hh it a ne items
theorem beginsK (k : Bool) (a : Addr) (items : Array Value) : Begins (.ref a) (itObj k a) fun h => OnK k h a items := by
  cases k
  · exact begins_list a items
  · exact begins_tuple a items
theorem itK_ob {k : Bool} {h : Heap} {it a : Addr} {i : Nat} (x : ItK k h it a i) : ∃ o, h.get? it = some o ∧ ∀ v, o.data ≠ .cell v := by
  cases k
  · obtain ⟨o, e, _, d⟩ := x
    exact ⟨o, e, fun v z => by rw [d] at z; cases z⟩
  · obtain ⟨o, e, _, d⟩ := x
    exact ⟨o, e, fun v z => by rw [d] at z; cases z⟩
theorem itK_at {k : Bool} {h h' : Heap} {it a : Addr} {i : Nat} (x : ItK k h it a i) (q : ∀ o, h.get? it = some o → h'.get? it = some o) : ItK k h' it a i := by
  cases k
  · exact Heap.IsListIter.at x q
  · exact Heap.IsTupleIter.at x q
theorem itK_new {k : Bool} {h : Heap} {it a : Addr} (e : h.get? it = some (itObj k a)) : ItK k h it a 0 := by
  cases k
  · exact ⟨_, e, rfl, rfl⟩
  · exact ⟨_, e, rfl, rfl⟩
section
variable {X : Cx} {pins : List (Addr × Obj)} {σ : L2.St} {H : Hp} {s : Shared} {a : Addr} {xs ys : List V}
theorem seqK (k : Bool) (I : Inv X pins σ H s) (h : SqK k X.K H a xs) : ∃ its : List Value, Vals xs its ∧ OnK k s.heap a its.toArray := by
  cases k
  · obtain ⟨its, r, p, _⟩ := I.list h
    exact ⟨its, r, p.isList⟩
  · obtain ⟨its, r, p, _⟩ := I.tuple h
    exact ⟨its, r, p⟩
theorem seqK_inj (k : Bool) (I : Inv X pins σ H s) (h : SqK k X.K H a xs) (h' : SqK k X.K H a ys) : xs = ys := by
  cases k
  · exact I.list_inj h h'
  · exact I.tuple_inj h h'
theorem onK_lt {k : Bool} {h : Heap} {items : Array Value} (x : OnK k h a items) : a < h.objs.size := by
  cases k
  · obtain ⟨o, e, _⟩ := x
    exact Heap.lt_size e
  · obtain ⟨o, e, _⟩ := x
    exact Heap.lt_size e
end
/-- how the pairs come -/
def Itm (k l : Bool) (K : PySem.W.Frag) (a b : Addr) : It :=
  ⟨fun i H => ∃ (xs ys : List V) (x y : V), SqK k K H a xs ∧ SqK l K H b ys ∧ xs[i]? = some x ∧ ys[i]? = some y,
    fun i H v H' => ∃ T x y, v = .ref T ∧ H T = none ∧ H' = upd H T (.tup [x, y]) ∧ (∀ xs, SqK k K H a xs → xs[i]? = some x) ∧ ∀ ys, SqK l K H b ys → ys[i]? = some y,
    fun i H => ∃ xs ys : List V, SqK k K H a xs ∧ SqK l K H b ys ∧ i ≤ xs.length ∧ i ≤ ys.length ∧ (i = xs.length ∨ i = ys.length)⟩
theorem turnK {P : Program} {w : World} {K : PySem.W.Frag} {elts : List Expr} {kk : Nat} {tpos : Pos} (k l : Bool) {a b z TI TO i1 i2 : Addr} (S : ZipSep2 z TI TO i1 i2 [i1, a] [i2, b]) (n1 : a ≠ i1) (n2 : b ≠ i2) :
    Turn P w K (.Tuple elts kk tpos) (Itm k l K a b) [z, TI, TO, i1, i2] z (fun i h => IsZip h z TI TO .none ∧ IsTupOf2 h TI (.ref i1) (.ref i2) ∧ (∃ x y, IsTupOf2 h TO x y) ∧ ItK k h i1 a i ∧ ItK l h i2 b i) where
  mem := List.mem_cons_self
  obj := fun i h st c hc => by
    obtain ⟨q1, q2, ⟨x, y, q3⟩, q4, q5⟩ := st
    simp only [List.mem_cons, List.not_mem_nil, or_false] at hc
    rcases hc with rfl | rfl | rfl | rfl | rfl
    · exact ⟨_, q1, fun v e => nomatch e⟩
    · exact ⟨_, q2, fun v e => nomatch e⟩
    · exact ⟨_, q3, fun v e => nomatch e⟩
    · exact itK_ob q4
    · exact itK_ob q5
  keep := fun i h h' st q => by
    obtain ⟨q1, q2, ⟨x, y, q3⟩, q4, q5⟩ := st
    exact ⟨q z (by simp) _ q1, q TI (by simp) _ q2, ⟨x, y, q TO (by simp) _ q3⟩, itK_at q4 (q i1 (by simp)), itK_at q5 (q i2 (by simp))⟩
  item := by
    intro X hP hw hK hc i pins s σ H E I hf st hg
    subst hP hw hK
    obtain ⟨q1, q2, ⟨x0, y0, q3⟩, q4, q5⟩ := st
    obtain ⟨xs, ys, x, y, hx, hy, gx, gy⟩ := hg
    obtain ⟨us, ru, ou⟩ := seqK k I hx
    obtain ⟨vs, rv, ov⟩ := seqK l I hy
    have hh : X.A.in1.handled = none := I.ok.hd hc
    obtain ⟨u, eu, rxu⟩ := ru.get gx
    obtain ⟨v, ev, ryv⟩ := rv.get gy
    have l1 : i < us.toArray.size := by simpa using (List.getElem?_eq_some_iff.mp eu).1
    have l2 : i < vs.toArray.size := by simpa using (List.getElem?_eq_some_iff.mp ev).1
    refine wpAny_pyNext_zipD2_item S (drawsK k hh i1 a n1 us.toArray) (drawsK l hh i2 b n2 vs.toArray) q1 q2 q3 ⟨q4, ou⟩ ⟨q5, ov⟩ l1 l2 fun u' v' h1 tk y1 y2 z1 z2 z3 z4 z5 z6 hk => ?_
    have eu' : u' = u := by simpa [eu] using y1.symm
    have ev' : v' = v := by simpa [ev] using y2.symm
    subst eu' ev'
    refine ⟨_, rfl, wpAny_letOwnedTupleGo_zip (s := { s with heap := h1, toks := tk }) z1 fun h2 w1 sb => ?_⟩
    have lz := Heap.lt_size q1
    have eT : h2.get? s.heap.objs.size = some { cls := .type "tuple", data := .seq #[u', v'] } := (sb.2 _ (Nat.ne_of_gt lz)).trans z5
    have new : ObjOk X.prog X.w (upd H s.heap.objs.size (.tup [x, y])) h2 s.heap.objs.size (.tup [x, y]) :=
      ⟨by show 2 ≤ sizeLine; decide, [u', v'], .cons rxu (.cons ryv .nil), ⟨_, eT, rfl, _, rfl⟩⟩
    have keepAll : ∀ c o, c ∉ [z, TI, TO, i1, i2] → s.heap.get? c = some o → h2.get? c = some o := fun c o hc e => by
      simp only [List.mem_cons, List.not_mem_nil, or_false, not_or] at hc
      exact (sb.2 c hc.1).trans (hk c o hc.1 hc.2.2.1 hc.2.2.2.1 hc.2.2.2.2 e)
    refine ⟨.ref s.heap.objs.size, _, I.turnedNew (t' := tk) keepAll hf (Nat.le_refl _) new, rfl, ⟨_, x, y, rfl, I.hok.fresh (Nat.le_refl _), rfl, fun l h => by rw [seqK_inj k I h hx]; exact gx, fun l' h => by rw [seqK_inj l I h hy]; exact gy⟩, ⟨w1, ?_, ⟨u', v', ?_⟩, ?_, ?_⟩, fun c hcm => ?_⟩
    · exact (sb.2 _ S.TIz).trans (hk _ _ S.TIz S.TITO S.TIi1 S.TIi2 q2)
    · exact (sb.2 _ S.TOz).trans z2
    · exact itK_at z3.1 fun o e => (sb.2 _ S.zi1.symm).trans e
    · exact itK_at z4.1 fun o e => (sb.2 _ S.zi2.symm).trans e
    · have lt : c < s.heap.objs.size := by
        simp only [List.mem_cons, List.not_mem_nil, or_false] at hcm
        rcases hcm with rfl | rfl | rfl | rfl | rfl
        · exact lz
        · exact Heap.lt_size q2
        · exact Heap.lt_size q3
        · obtain ⟨o, e, _⟩ := itK_ob q4; exact Heap.lt_size e
        · obtain ⟨o, e, _⟩ := itK_ob q5; exact Heap.lt_size e
      rw [upd_ne (Nat.ne_of_lt lt)]
      exact (hf c hcm).1
  done := by
    intro X hP hw hK hc i pins s σ H E I hf st hg
    subst hP hw hK
    obtain ⟨q1, q2, ⟨x0, y0, q3⟩, q4, q5⟩ := st
    obtain ⟨xs, ys, hx, hy, le1, le2, hend⟩ := hg
    obtain ⟨us, ru, ou⟩ := seqK k I hx
    obtain ⟨vs, rv, ov⟩ := seqK l I hy
    have hh : X.A.in1.handled = none := I.ok.hd hc
    have s1 : us.toArray.size = xs.length := by simp [ru.length]
    have s2 : vs.toArray.size = ys.length := by simp [rv.length]
    refine wpAny_pyNext_zipD2_end S (drawsK k hh i1 a n1 us.toArray) (drawsK l hh i2 b n2 vs.toArray) q1 q2 q3 ⟨q4, ou⟩ ⟨q5, ov⟩ (by omega) (by omega) (by omega) fun h1 tk hk => ⟨rfl, ?_⟩
    refine I.turnedL (t' := tk) (ch := [z, TI, TO, i1, i2]) (fun c o hc e => ?_) hf
    simp only [List.mem_cons, List.not_mem_nil, or_false, not_or] at hc
    exact hk c o hc.1 hc.2.2.1 hc.2.2.2.1 hc.2.2.2.2 e
  self := fun A i s Q E st h => wpAny_pyIter_zip st.1 h
def iZm (K : PySem.W.Frag) (ta : TA) : TI := fun σ H R => ta σ H fun vs H1 => ∃ (k l : Bool) (a b : Addr) (xs ys : List V), vs = [.ref a, .ref b] ∧ SqK k K H1 a xs ∧ SqK l K H1 b ys ∧ R (Itm k l K a b) H1
theorem pi_zm {X : Cx} {e e2 : Expr} {ta : TA} {p pos tpos : Pos} {elts : List Expr} {kk : Nat} (hg : Gl X "zip") (hm : X.mg "zip" = none) (ha : PA X [e, e2] ta)
    (hs : starEach [e, e2] X.env = (false, eval e X.env) :: starEach [e2] X.env) (hpl : (backTo pos (starEach [e2] X.env)).any (·.1) = false) :
    PI X (.Tuple elts kk tpos) (.Call (.Name "zip" p) [e, e2] [] pos) (iZm X.K ta) := by
  refine ⟨fun pins s σ H R I h => ?_⟩
  refine Call_ (ld_blt I hg hm PyProof.Rows.boot_zip (PyProof.Rows.callWith_type1 (thn (ha.run pos pins s σ H _ I h) fun us s1 ⟨vs, H1, I1, r1, q1⟩ => ?_) hs hpl))
  obtain ⟨k, l, a, b, xs, ys, rfl, hx, hy, q⟩ := q1
  cases r1 with
  | cons ra r1 =>
  cases r1 with
  | cons rb r1 =>
  cases r1
  cases ra
  cases rb
  obtain ⟨us, ru, ou⟩ := seqK k I1 hx
  obtain ⟨ws, rw', ow⟩ := seqK l I1 hy
  have la := onK_lt ou
  have lb := onK_lt ow
  refine zip_begins2 (beginsK k a us.toArray) (beginsK l b ws.toArray) ou ow fun h' z1 z2 z3 z4 z5 z6 hk => wpAny_pyIter_zip z1 ?_
  have S := zip_sep2 (N := s1.heap.objs.size) (fp1 := [a]) (fp2 := [b]) (by simpa using la) (by simpa using lb)
  have I2 : Inv X pins σ H1 { s1 with heap := h' } := I1.kept (t' := s1.toks) hk
  refine ⟨_, [_, _, _, _, _], _, _, H1, rfl, I2, turnK k l S (Nat.ne_of_lt la) (Nat.ne_of_lt (Nat.lt_succ_of_lt lb)), ⟨z1, z2, ⟨_, _, z3⟩, itK_new z4, itK_new z5⟩, fun c hcm => ?_, q⟩
  have ge : s1.heap.objs.size ≤ c := by
    simp only [List.mem_cons, List.not_mem_nil, or_false] at hcm
    rcases hcm with rfl | rfl | rfl | rfl | rfl
    · exact Nat.le_add_right _ 4
    · exact Nat.le_add_right _ 2
    · exact Nat.le_add_right _ 3
    · exact Nat.le_refl _
    · exact Nat.le_add_right _ 1
  exact I1.fpOk ge (I1.hok.fresh ge)
end EV

set_option Elab.async false
set_option linter.all false
set_option maxRecDepth 100000
set_option maxHeartbeats 4000000
/-! EVZ2: zip(.., strict=True) of two sequences of one length. -/
namespace EV
open PySem PySem.Spec L2 PyProof.Rows
/-- a strict zip -/
def SZip (h : Heap) (z TI TO : Addr) (first : Value) : Prop :=
  h.get? z = some { cls := .type "zip", dict := none, data := .fields #[first, .bool false, .bool true, .ref TI, .ref TO], slots := #[] }
section
variable {P : Program} {w : World} {A : Around} {E : Value → Shared → Prop} {s : Shared} {z TI TO i1 i2 it : Addr} {fp fp1 fp2 : List Addr} {n n1 n2 i : Nat} {R R1 R2 : Nat → Value → Prop} {St St1 St2 : Nat → Heap → Prop} {a1 a2 : Value}
theorem end_item {Q : Option Value → Shared → Prop} (D : Draws P w A it fp n R St) (hi : i < n) (st : St i s.heap) (q : ∀ x h' tk, R i x → St (i + 1) h' → Heap.SameBut it s.heap h' → Q (some x) { s with heap := h', toks := tk }) :
    wpAny (model P w) A (Builtin.SmallTypes.nextOrEnd (.ref it)) Q E s := by
  unfold Builtin.SmallTypes.nextOrEnd
  exact wpAny_bind (wpAny_attempt (D.item i s _ _ hi st fun x h' tk r st' sb => wpAny_pure (q x h' tk r st' sb)))
theorem end_end {Q : Option Value → Shared → Prop} (D : Draws P w A it fp n R St) (st : St n s.heap) (q : ∀ h', Heap.ExtBut it s.heap h' → Q none { s with heap := h' }) :
    wpAny (model P w) A (Builtin.SmallTypes.nextOrEnd (.ref it)) Q E s := by
  unfold Builtin.SmallTypes.nextOrEnd
  refine wpAny_bind (wpAny_attempt (D.done s _ _ st fun h' e eb he => ?_))
  obtain ⟨o, ho, hc⟩ := he
  exact wpAny_bind (wpAny_isInstance (T := "StopIteration") (b := true) ⟨o, ho, hc⟩ isSubtype_stop (wpAny_pure (q h' eb)))
/-- the head of a strict zip's next -/
theorem szip_item {Q : Value → Shared → Prop} (S : ZipSep2 z TI TO i1 i2 fp1 fp2) (D1 : Draws P w A i1 fp1 n1 R1 St1) (D2 : Draws P w A i2 fp2 n2 R2 St2)
    (hz : SZip s.heap z TI TO .none) (hTI : IsTupOf2 s.heap TI (.ref i1) (.ref i2)) (hTO : IsTupOf2 s.heap TO a1 a2) (st1 : St1 i s.heap) (st2 : St2 i s.heap) (lt1 : i < n1) (lt2 : i < n2)
    (q : ∀ x1 x2 h' tk, R1 i x1 → R2 i x2 → SZip h' z TI TO (rawInt s.heap.objs.size) → IsTupOf2 h' TO x1 x2 → St1 (i + 1) h' → St2 (i + 1) h' → IsTupOf2 h' s.heap.objs.size x1 x2 →
      (∀ c o, c ≠ z → c ≠ TO → c ≠ i1 → c ≠ i2 → s.heap.get? c = some o → h'.get? c = some o) → Q (.ref s.heap.objs.size) { s with heap := h', toks := tk }) :
    wpAny (model P w) A (Builtin.«zip.__next__» ⟨[.ref z], []⟩) (fun fin s' => ∃ v, fin = .done (.ret v) ∧ Q v s') E s := by
  obtain ⟨h0, gn, dr, tk0, os⟩ := s
  show wpAny _ _ (field (.ref z) 2 >>= _) _ _ _
  refine wpAny_bind (wpAny_field hz rfl (x := .bool true) rfl ?_)
  show wpAny _ _ (field (.ref z) 3 >>= _) _ _ _
  refine wpAny_bind (wpAny_field hz rfl (x := .ref TI) rfl (wpAny_bind (wpAny_seqItems hTI rfl ?_)))
  show wpAny _ _ (Builtin.SmallTypes.ownedTupleIsFree (.ref z) >>= _) _ _ _
  refine wpAny_bind (by unfold Builtin.SmallTypes.ownedTupleIsFree; exact wpAny_bind (wpAny_field hz rfl (x := .none) rfl (wpAny_pure (by
    simp only [if_true]
    refine wpAny_bind (wpAny_rule (wpAny_bind (wpAny_field hz rfl (x := .ref TO) rfl (wpAny_bind (wpAny_setField_rec hz (by simp) fun ha hza sa => ?_)))))
    replace hza : SZip ha z TI TO .ellipsis := hza
    replace sa : Heap.SameBut z h0 ha := sa
    refine wpAny_bind ?_
    simp only [List.zipIdx_cons, List.zipIdx_nil, List.forIn_cons, List.forIn_nil]
    refine wpAny_bind (wpAny_bind (wpAny_onRaise ?_))
    show wpAny _ _ (Builtin.SmallTypes.nextOrEnd (.ref i1)) _ _ ⟨ha, gn, dr, tk0, os⟩
    refine end_item D1 lt1 (D1.over st1 sa S.zf1) fun x1 hb tkb r1 sn1 sb => ?_
    replace sb : Heap.SameBut i1 ha hb := sb
    have tb : IsTupOf2 hb TO a1 a2 := sb.extBut _ _ S.Ti1 (sa.extBut _ _ S.TOz hTO)
    refine wpAny_bind (wpAny_seqItems (s := ⟨hb, gn, dr, tkb, os⟩) tb rfl (wpAny_bind (updateSeq_IsTupOf2 (s := ⟨hb, gn, dr, tkb, os⟩) tb fun hc tc sc => ?_)))
    replace tc : IsTupOf2 hc TO x1 a2 := tc
    replace sc : Heap.SameBut TO hb hc := sc
    refine wpAny_bind (wpAny_letGo (wpAny_pure ?_))
    refine wpAny_bind (wpAny_bind (wpAny_onRaise ?_))
    show wpAny _ _ (Builtin.SmallTypes.nextOrEnd (.ref i2)) _ _ ⟨hc, gn, dr, tkb, os⟩
    refine end_item D2 lt2 (D2.over (D2.over (D2.over st2 sa S.zf2) sb S.sep1_2) sc S.Tf2) fun x2 hd tkd r2 sn2 sd => ?_
    replace sd : Heap.SameBut i2 hc hd := sd
    have td : IsTupOf2 hd TO x1 a2 := sd.extBut _ _ S.Ti2 tc
    refine wpAny_bind (wpAny_seqItems (s := ⟨hd, gn, dr, tkd, os⟩) td rfl (wpAny_bind (updateSeq_IsTupOf2 (s := ⟨hd, gn, dr, tkd, os⟩) td fun he te se => ?_)))
    replace te : IsTupOf2 he TO x1 x2 := te
    replace se : Heap.SameBut TO hd he := se
    refine wpAny_bind (wpAny_letGo (wpAny_pure (wpAny_pure ?_)))
    refine wpAny_bind (wpAny_seqItems (s := ⟨he, gn, dr, tkd, os⟩) te rfl (wpAny_bind (wpAny_newTuple ?_)))
    have size : he.objs.size = h0.objs.size := by rw [se.1, sd.1, sc.1, sb.1, sa.1]
    have ze : SZip he z TI TO .ellipsis := se.extBut _ _ S.TOz.symm (sd.extBut _ _ S.zi2 (sc.extBut _ _ S.TOz.symm (sb.extBut _ _ S.zi1 hza)))
    have old : ∀ c o, c ≠ z → c ≠ TO → c ≠ i1 → c ≠ i2 → h0.get? c = some o → he.get? c = some o := fun c o cz cT c1 c2 e =>
      se.extBut _ _ cT (sd.extBut _ _ c2 (sc.extBut _ _ cT (sb.extBut _ _ c1 (sa.extBut _ _ cz e))))
    have f1 : St1 (i + 1) he := D1.over (D1.over (D1.over sn1 sc S.Tf1) sd S.sep2_1) se S.Tf1
    have f2 : St2 (i + 1) he := D2.over sn2 se S.Tf2
    have lt := Heap.lt_size ze
    show wpAny _ _ (Builtin.SmallTypes.ownedTupleHandOut (.ref z) (.ref he.objs.size) >>= _) _ _ ⟨he.push { cls := .type "tuple", data := .seq #[x1, x2] }, gn, dr, tkd, os⟩
    refine wpAny_bind ?_
    unfold Builtin.SmallTypes.ownedTupleHandOut
    have zp : SZip (he.push { cls := .type "tuple", data := .seq #[x1, x2] }) z TI TO .ellipsis := Heap.get?_push_of_some _ ze
    refine wpAny_bind (wpAny_setField_rec zp (by simp) fun hf zf sf => ?_)
    replace zf : SZip hf z TI TO (rawInt he.objs.size) := zf
    refine wpAny_setField_rec zf (by simp) fun hg zg sg => wpAny_pure ⟨_, rfl, ?_⟩
    replace zg : SZip hg z TI TO (rawInt he.objs.size) := zg
    replace sf : Heap.SameBut z (he.push { cls := .type "tuple", data := .seq #[x1, x2] }) hf := sf
    replace sg : Heap.SameBut z hf hg := sg
    have up : ∀ c o, c ≠ z → he.get? c = some o → hg.get? c = some o := fun c o cz e => sg.extBut _ _ cz (sf.extBut _ _ cz (Heap.get?_push_of_some _ e))
    have tg : IsTupOf2 hg he.objs.size x1 x2 := sg.extBut _ _ (Nat.ne_of_gt lt) (sf.extBut _ _ (Nat.ne_of_gt lt) (Heap.get?_push_size _ rfl))
    show Q (.ref he.objs.size) ⟨hg, gn, dr, tkd, os⟩
    rw [size] at zg tg ⊢
    exact q x1 x2 hg tkd r1 r2 zg (up _ _ S.TOz te) (D1.frame _ _ _ f1 fun b hb o e => up b o (fun y => S.zf1 (y ▸ hb)) e) (D2.frame _ _ _ f2 fun b hb o e => up b o (fun y => S.zf2 (y ▸ hb)) e) tg fun c o cz cT c1 c2 e => up c o cz (old c o cz cT c1 c2 e)))))
theorem szip_end {Q : Fin → Shared → Prop} (hh : A.handled = none) (S : ZipSep2 z TI TO i1 i2 fp1 fp2) (D1 : Draws P w A i1 fp1 n R1 St1) (D2 : Draws P w A i2 fp2 n R2 St2)
    (hz : SZip s.heap z TI TO .none) (hTI : IsTupOf2 s.heap TI (.ref i1) (.ref i2)) (hTO : IsTupOf2 s.heap TO a1 a2) (st1 : St1 n s.heap) (st2 : St2 n s.heap)
    (q : ∀ h' tk e, (∀ c o, c ≠ z → c ≠ TO → c ≠ i1 → c ≠ i2 → s.heap.get? c = some o → h'.get? c = some o) → (∃ o, h'.get? e = some o ∧ o.cls = .type "StopIteration") → E (.ref e) { s with heap := h', toks := tk }) :
    wpAny (model P w) A (Builtin.«zip.__next__» ⟨[.ref z], []⟩) Q E s := by
  obtain ⟨h0, gn, dr, tk0, os⟩ := s
  show wpAny _ _ (field (.ref z) 2 >>= _) _ _ _
  refine wpAny_bind (wpAny_field hz rfl (x := .bool true) rfl ?_)
  show wpAny _ _ (field (.ref z) 3 >>= _) _ _ _
  refine wpAny_bind (wpAny_field hz rfl (x := .ref TI) rfl (wpAny_bind (wpAny_seqItems hTI rfl ?_)))
  show wpAny _ _ (Builtin.SmallTypes.ownedTupleIsFree (.ref z) >>= _) _ _ _
  refine wpAny_bind (by unfold Builtin.SmallTypes.ownedTupleIsFree; exact wpAny_bind (wpAny_field hz rfl (x := .none) rfl (wpAny_pure (by
    simp only [if_true]
    refine wpAny_bind (wpAny_rule (wpAny_bind (wpAny_field hz rfl (x := .ref TO) rfl (wpAny_bind (wpAny_setField_rec hz (by simp) fun ha hza sa => ?_)))))
    replace hza : SZip ha z TI TO .ellipsis := hza
    replace sa : Heap.SameBut z h0 ha := sa
    refine wpAny_bind ?_
    simp only [List.zipIdx_cons, List.zipIdx_nil, List.forIn_cons, List.forIn_nil]
    refine wpAny_bind (wpAny_bind (wpAny_onRaise ?_))
    show wpAny _ _ (Builtin.SmallTypes.nextOrEnd (.ref i1)) _ _ ⟨ha, gn, dr, tk0, os⟩
    refine end_end D1 (D1.over st1 sa S.zf1) fun hb eb => ?_
    replace eb : Heap.ExtBut i1 ha hb := eb
    have zb : SZip hb z TI TO .ellipsis := eb _ _ S.zi1 hza
    refine wpAny_bind (wpAny_setField_rec (s := ⟨hb, gn, dr, tk0, os⟩) zb (by simp) fun hc zc sc => ?_)
    replace sc : Heap.SameBut z hb hc := sc
    refine wpAny_bind ?_
    show wpAny _ _ (forIn (m := Sem) (α := Value × Nat) (β := PUnit) (([Value.ref i1, Value.ref i2].drop 1).zipIdx 1) _ _ >>= _) _ _ _
    refine wpAny_bind ?_
    simp only [List.drop_succ_cons, List.drop_zero, List.zipIdx_cons, List.zipIdx_nil, List.forIn_cons, List.forIn_nil]
    refine wpAny_bind (wpAny_bind (end_end (s := ⟨hc, gn, dr, tk0, os⟩) D2 (D2.frame _ _ _ (D2.over st2 sa S.zf2) fun b hb o e => ?_) fun hd ed => ?_))
    · exact sc.extBut _ _ (fun y => S.zf2 (y ▸ hb)) (eb _ _ (fun y => S.sep1_2 (y ▸ hb)) e)
    replace ed : Heap.ExtBut i2 hc hd := ed
    rw [if_neg (show ¬ ((none : Option Value).isSome = true) by decide)]
    refine wpAny_pure (wpAny_pure (wpAny_bind (wpAny_rule ?_)))
    unfold Builtin.SmallTypes.stopIteration
    refine wpAny_bind ?_
    simp only [newExc, newTuple]
    refine wpAny_bind (wpAny_newObj_type ?_ (by size_fits))
    refine wpAny_bind (m := firstArgMember _ _) (wpAny_of_eq (a := Value.none) (by first | rfl | (simp only [firstArgMember]; rfl)) ?_)
    refine wpAny_newObj_type ?_ (by size_fits)
    simp only [raiseNew]
    refine wpAny_bind (wpAny_handled ?_)
    rw [hh]
    refine wpAny_bind (wpAny_pure (wpAny_throw ?_))
    refine q _ _ _ (fun c o cz cT c1 c2 e => ?_) ⟨_, Heap.get?_push_size _ rfl, rfl⟩
    exact Heap.get?_push_of_some _ (Heap.get?_push_of_some _ (ed _ _ c2 (sc.extBut _ _ cz (eb _ _ c1 (sa.extBut _ _ cz e)))))))))
theorem next_szip {Q : Option Value → Shared → Prop} (S : ZipSep2 z TI TO i1 i2 fp1 fp2) (D1 : Draws P w A.in1 i1 fp1 n1 R1 St1) (D2 : Draws P w A.in1 i2 fp2 n2 R2 St2)
    (hz : SZip s.heap z TI TO .none) (hTI : IsTupOf2 s.heap TI (.ref i1) (.ref i2)) (hTO : IsTupOf2 s.heap TO a1 a2) (st1 : St1 i s.heap) (st2 : St2 i s.heap) (lt1 : i < n1) (lt2 : i < n2)
    (q : ∀ x1 x2 h' tk, R1 i x1 → R2 i x2 → SZip h' z TI TO (rawInt s.heap.objs.size) → IsTupOf2 h' TO x1 x2 → St1 (i + 1) h' → St2 (i + 1) h' → IsTupOf2 h' s.heap.objs.size x1 x2 →
      (∀ c o, c ≠ z → c ≠ TO → c ≠ i1 → c ≠ i2 → s.heap.get? c = some o → h'.get? c = some o) → Q (some (.ref s.heap.objs.size)) { s with heap := h', toks := tk }) :
    wpAny (model P w) A (pyNext (.ref z)) Q E s := by
  have ty : s.TypeIs (.ref z) "zip" := ⟨_, hz, rfl⟩
  unfold pyNext
  refine wpAny_bind (wpAny_attempt (wpAny_callSpecial?_slot (name := Str.ofString "__next__") ty F.slot_zip_next (wpAny_call_entry F.slot_zip_next ty F.entry_zip_next ?_ (F.args_zip_next_1 _))))
  exact szip_item S D1 D2 hz hTI hTO st1 st2 lt1 lt2 fun x1 x2 h' tk b1 b2 b3 b4 b5 b6 b7 b8 => wpAny_pure (q x1 x2 h' tk b1 b2 b3 b4 b5 b6 b7 b8)
theorem stop_szip {Q : Option Value → Shared → Prop} (hh : A.in1.handled = none) (S : ZipSep2 z TI TO i1 i2 fp1 fp2) (D1 : Draws P w A.in1 i1 fp1 n R1 St1) (D2 : Draws P w A.in1 i2 fp2 n R2 St2)
    (hz : SZip s.heap z TI TO .none) (hTI : IsTupOf2 s.heap TI (.ref i1) (.ref i2)) (hTO : IsTupOf2 s.heap TO a1 a2) (st1 : St1 n s.heap) (st2 : St2 n s.heap)
    (q : ∀ h' tk, (∀ c o, c ≠ z → c ≠ TO → c ≠ i1 → c ≠ i2 → s.heap.get? c = some o → h'.get? c = some o) → Q none { s with heap := h', toks := tk }) :
    wpAny (model P w) A (pyNext (.ref z)) Q E s := by
  have ty : s.TypeIs (.ref z) "zip" := ⟨_, hz, rfl⟩
  unfold pyNext
  refine wpAny_bind (wpAny_attempt (wpAny_callSpecial?_slot (name := Str.ofString "__next__") ty F.slot_zip_next (wpAny_call_entry F.slot_zip_next ty F.entry_zip_next ?_ (F.args_zip_next_1 _))))
  refine szip_end hh S D1 D2 hz hTI hTO st1 st2 fun h' tk e hk he => ?_
  obtain ⟨o, ho, hc⟩ := he
  exact wpAny_bind (wpAny_isInstance (T := "StopIteration") (b := true) ⟨o, ho, hc⟩ isSubtype_stop (wpAny_pure (q _ _ hk)))
theorem go_szip {elts : List Expr} {kk : Nat} {pos : Pos} {T : Addr} {Q : Unit → Shared → Prop} (hz : SZip s.heap z TI TO (rawInt T)) (q : ∀ h', SZip h' z TI TO .none → Heap.SameBut z s.heap h' → Q () { s with heap := h' }) :
    wpAny (model P w) A (letOwnedTupleGo (.Tuple elts kk pos) (.ref z) (.ref T)) Q E s := by
  unfold letOwnedTupleGo
  refine wpAny_bind (wpAny_load hz ?_)
  show wpAny _ _ (if (["enumerate", "zip", "dict_itemiterator", "dict_reverseitemiterator", "odict_iterator", "itertools.zip_longest", "itertools.pairwise"].contains "zip" &&
      (#[rawInt T, .bool false, .bool true, .ref TI, .ref TO] : Array Value)[0]? == some (rawInt T)) = true then _ else _) Q E s
  rw [if_pos (by simp)]
  refine wpAny_bind (wpAny_rule ?_)
  show wpAny _ _ (setField (.ref z) 0 .none) Q E s
  exact wpAny_setField_rec hz (by simp) fun h' hz' hs' => q h' hz' hs'
theorem iter_szip {first : Value} {Q : Value → Shared → Prop} (hz : SZip s.heap z TI TO first) (q : Q (.ref z) s) : wpAny (model P w) A (pyIter (.ref z)) Q E s := by
  have ty : s.TypeIs (.ref z) "zip" := ⟨_, hz, rfl⟩
  refine wpAny_pyIter_slot ty F.slot_zip_iter (wpAny_call_entry F.slot_zip_iter ty F.entry_zip_iter ?_ (F.args_zip_iter_1 _))
  show wpAny _ _ (ret (.ref z)) _ _ s
  exact wpAny_pure ⟨_, rfl, "zip", _, ty, F.slot_zip_next.lookup, q⟩
end
theorem turnS {P : Program} {w : World} {K : PySem.W.Frag} {elts : List Expr} {kk : Nat} {tpos : Pos} (k l : Bool) {a b z TI TO i1 i2 : Addr} (S : ZipSep2 z TI TO i1 i2 [i1, a] [i2, b]) (n1 : a ≠ i1) (n2 : b ≠ i2) :
    Turn P w K (.Tuple elts kk tpos) { Itm k l K a b with stop := fun i H => ∃ xs ys : List V, SqK k K H a xs ∧ SqK l K H b ys ∧ i = xs.length ∧ i = ys.length } [z, TI, TO, i1, i2] z (fun i h => SZip h z TI TO .none ∧ IsTupOf2 h TI (.ref i1) (.ref i2) ∧ (∃ x y, IsTupOf2 h TO x y) ∧ ItK k h i1 a i ∧ ItK l h i2 b i) where
  mem := List.mem_cons_self
  obj := fun i h st c hc => by
    obtain ⟨q1, q2, ⟨x, y, q3⟩, q4, q5⟩ := st
    simp only [List.mem_cons, List.not_mem_nil, or_false] at hc
    rcases hc with rfl | rfl | rfl | rfl | rfl
    · exact ⟨_, q1, fun v e => nomatch e⟩
    · exact ⟨_, q2, fun v e => nomatch e⟩
    · exact ⟨_, q3, fun v e => nomatch e⟩
    · exact itK_ob q4
    · exact itK_ob q5
  keep := fun i h h' st q => by
    obtain ⟨q1, q2, ⟨x, y, q3⟩, q4, q5⟩ := st
    exact ⟨q z (by simp) _ q1, q TI (by simp) _ q2, ⟨x, y, q TO (by simp) _ q3⟩, itK_at q4 (q i1 (by simp)), itK_at q5 (q i2 (by simp))⟩
  item := by
    intro X hP hw hK hc i pins s σ H E I hf st hg
    subst hP hw hK
    obtain ⟨q1, q2, ⟨x0, y0, q3⟩, q4, q5⟩ := st
    obtain ⟨xs, ys, x, y, hx, hy, gx, gy⟩ := hg
    obtain ⟨us, ru, ou⟩ := seqK k I hx
    obtain ⟨vs, rv, ov⟩ := seqK l I hy
    have hh : X.A.in1.handled = none := I.ok.hd hc
    obtain ⟨u, eu, rxu⟩ := ru.get gx
    obtain ⟨v, ev, ryv⟩ := rv.get gy
    have l1 : i < us.toArray.size := by simpa using (List.getElem?_eq_some_iff.mp eu).1
    have l2 : i < vs.toArray.size := by simpa using (List.getElem?_eq_some_iff.mp ev).1
    refine next_szip S (drawsK k hh i1 a n1 us.toArray) (drawsK l hh i2 b n2 vs.toArray) q1 q2 q3 ⟨q4, ou⟩ ⟨q5, ov⟩ l1 l2 fun u' v' h1 tk y1 y2 z1 z2 z3 z4 z5 hk => ?_
    have eu' : u' = u := by simpa [eu] using y1.symm
    have ev' : v' = v := by simpa [ev] using y2.symm
    subst eu' ev'
    refine ⟨_, rfl, go_szip (s := { s with heap := h1, toks := tk }) z1 fun h2 w1 sb => ?_⟩
    have lz := Heap.lt_size q1
    have eT : h2.get? s.heap.objs.size = some { cls := .type "tuple", data := .seq #[u', v'] } := (sb.2 _ (Nat.ne_of_gt lz)).trans z5
    have new : ObjOk X.prog X.w (upd H s.heap.objs.size (.tup [x, y])) h2 s.heap.objs.size (.tup [x, y]) :=
      ⟨by show 2 ≤ sizeLine; decide, [u', v'], .cons rxu (.cons ryv .nil), ⟨_, eT, rfl, _, rfl⟩⟩
    have keepAll : ∀ c o, c ∉ [z, TI, TO, i1, i2] → s.heap.get? c = some o → h2.get? c = some o := fun c o hc e => by
      simp only [List.mem_cons, List.not_mem_nil, or_false, not_or] at hc
      exact (sb.2 c hc.1).trans (hk c o hc.1 hc.2.2.1 hc.2.2.2.1 hc.2.2.2.2 e)
    refine ⟨.ref s.heap.objs.size, _, I.turnedNew (t' := tk) keepAll hf (Nat.le_refl _) new, rfl, ⟨_, x, y, rfl, I.hok.fresh (Nat.le_refl _), rfl, fun l h => by rw [seqK_inj k I h hx]; exact gx, fun l' h => by rw [seqK_inj l I h hy]; exact gy⟩, ⟨w1, ?_, ⟨u', v', ?_⟩, ?_, ?_⟩, fun c hcm => ?_⟩
    · exact (sb.2 _ S.TIz).trans (hk _ _ S.TIz S.TITO S.TIi1 S.TIi2 q2)
    · exact (sb.2 _ S.TOz).trans z2
    · exact itK_at z3.1 fun o e => (sb.2 _ S.zi1.symm).trans e
    · exact itK_at z4.1 fun o e => (sb.2 _ S.zi2.symm).trans e
    · have lt : c < s.heap.objs.size := by
        simp only [List.mem_cons, List.not_mem_nil, or_false] at hcm
        rcases hcm with rfl | rfl | rfl | rfl | rfl
        · exact lz
        · exact Heap.lt_size q2
        · exact Heap.lt_size q3
        · obtain ⟨o, e, _⟩ := itK_ob q4; exact Heap.lt_size e
        · obtain ⟨o, e, _⟩ := itK_ob q5; exact Heap.lt_size e
      rw [upd_ne (Nat.ne_of_lt lt)]
      exact (hf c hcm).1
  done := by
    intro X hP hw hK hc i pins s σ H E I hf st hg
    subst hP hw hK
    obtain ⟨q1, q2, ⟨x0, y0, q3⟩, q4, q5⟩ := st
    obtain ⟨xs, ys, hx, hy, e1, e2⟩ := hg
    obtain ⟨us, ru, ou⟩ := seqK k I hx
    obtain ⟨vs, rv, ov⟩ := seqK l I hy
    have hh : X.A.in1.handled = none := I.ok.hd hc
    have s1 : us.toArray.size = i := by simp [← ru.length, e1]
    have s2 : vs.toArray.size = i := by simp [← rv.length, e2]
    have D1 := drawsK (P := X.prog) (w := X.w) k hh i1 a n1 us.toArray
    have D2 := drawsK (P := X.prog) (w := X.w) l hh i2 b n2 vs.toArray
    rw [s1] at D1
    rw [s2] at D2
    refine stop_szip hh S D1 D2 q1 q2 q3 ⟨q4, ou⟩ ⟨q5, ov⟩ fun h1 tk hk => ⟨rfl, ?_⟩
    refine I.turnedL (t' := tk) (ch := [z, TI, TO, i1, i2]) (fun c o hc e => ?_) hf
    simp only [List.mem_cons, List.not_mem_nil, or_false, not_or] at hc
    exact hk c o hc.1 hc.2.2.1 hc.2.2.2.1 hc.2.2.2.2 e
  self := fun A i s Q E st h => iter_szip st.1 h
end EV

set_option Elab.async false
set_option linter.all false
set_option maxRecDepth 100000
set_option maxHeartbeats 4000000
/-! EVZ3: the call of zip with strict=True. -/
namespace EV
open PySem PySem.Spec L2 PyProof.Rows
theorem tcall_strict (a b c : Value) : checkTypeCall "zip" ⟨[a, b], [(Str.ofString "strict", c)]⟩ = pure () := by kernel_rfl
theorem ncall_strict (a b c : Value) : checkBuiltinCall "zip.__new__" ⟨[.type "zip", a, b], [(Str.ofString "strict", c)]⟩ = pure () := by kernel_rfl
theorem acall_strict (o a b c : Value) : argsOk "object.__init__" ⟨[o, a, b], [(Str.ofString "strict", c)]⟩ := by unfold argsOk; kernel_rfl
def hz1 (h : Heap) (o1 o2 : Obj) : Heap := (h.push o1).push o2
def hz2 (h : Heap) (o1 o2 : Obj) : Heap := (hz1 h o1 o2).push { cls := .type "tuple", data := .seq #[.ref h.objs.size, .ref (h.push o1).objs.size] }
def hz3 (h : Heap) (o1 o2 : Obj) : Heap := (hz2 h o1 o2).push { cls := .type "tuple", data := .seq #[.none, .none] }
def hz4 (h : Heap) (o1 o2 : Obj) : Heap := (hz3 h o1 o2).push { cls := .type "zip", data := .fields #[.none, .bool false, .bool true, .ref (hz1 h o1 o2).objs.size, .ref (hz2 h o1 o2).objs.size] }
theorem meets_strict {v1 v2 : Value} {o1 o2 : Obj} {H1 H2 : Heap → Prop} (B1 : Begins v1 o1 H1) (B2 : Begins v2 o2 H2) :
    Meets (Builtin.«zip.__new__» ⟨[.type "zip", v1, v2], [(Str.ofString "strict", .bool true)]⟩) (fun _ R s => (H1 s.heap ∧ H2 s.heap) ∧ R (.ok (.ret (.ref (hz3 s.heap o1 o2).objs.size))) { s with heap := hz4 s.heap o1 o2 }) :=
  .of_wp fun prog w A R s h => by
    obtain ⟨hp, g, d, tk, os⟩ := s; obtain ⟨⟨h1, h2⟩, h⟩ := h
    have hsub := sub_zip
    have q1 : ∀ {A' : Around} {E : Value → Shared → Prop} {Q : Value → Shared → Prop}, Q (.ref hp.objs.size) ⟨hp.push o1, g, d, tk, os⟩ → wpAny (model prog w) A' (pyIter v1) Q E ⟨hp, g, d, tk, os⟩ :=
      fun q => B1.iter prog w _ _ ⟨hp, g, d, tk, os⟩ _ h1 q
    have q2 : ∀ {A' : Around} {E : Value → Shared → Prop} {Q : Value → Shared → Prop}, Q (.ref (hp.push o1).objs.size) ⟨(hp.push o1).push o2, g, d, tk, os⟩ → wpAny (model prog w) A' (pyIter v2) Q E ⟨hp.push o1, g, d, tk, os⟩ :=
      fun q => B2.iter prog w _ _ ⟨hp.push o1, g, d, tk, os⟩ _ (B2.keeps _ _ h2 fun b o' e => Heap.get?_push_of_some _ e) q
    have e1 : (Str.ofString "strict" == ("strict" : Str)) = true := by decide +kernel
    have e2 : (Str.ofString "strict" != ("strict" : Str)) = false := by decide +kernel
    wp_walk using q1, q2
    exact ⟨_, rfl, h⟩
section
variable {P : Program} {w : World} {A : Around} {E : Value → Shared → Prop} {s : Shared}
theorem begins_strict {v1 v2 : Value} {o1 o2 : Obj} {H1 H2 : Heap → Prop} {Q : Value → Shared → Prop} (B1 : Begins v1 o1 H1) (B2 : Begins v2 o2 H2) (h1 : H1 s.heap) (h2 : H2 s.heap)
    (q : ∀ h', SZip h' (s.heap.objs.size + 4) (s.heap.objs.size + 2) (s.heap.objs.size + 3) .none → IsTupOf2 h' (s.heap.objs.size + 2) (.ref s.heap.objs.size) (.ref (s.heap.objs.size + 1)) →
      IsTupOf2 h' (s.heap.objs.size + 3) .none .none → h'.get? s.heap.objs.size = some o1 → h'.get? (s.heap.objs.size + 1) = some o2 →
      (∀ c o, s.heap.get? c = some o → h'.get? c = some o) → Q (.ref (s.heap.objs.size + 4)) { s with heap := h' }) :
    wpAny (model P w) A (call (.type "zip") [v1, v2] [(Str.ofString "strict", .bool true)]) Q E s := by
  refine callType_newKw F.called_zip (by decide) (tcall_strict _ _ _) (ncall_strict _ _ _) (fun o => acall_strict o _ _ _) F.entry_zip_new (meets_strict B1 B2) ⟨⟨h1, h2⟩, ?_⟩
  have z1 : (s.heap.push o1).objs.size = s.heap.objs.size + 1 := by rw [Heap.size_push]
  have z2 : (hz1 s.heap o1 o2).objs.size = s.heap.objs.size + 2 := by unfold hz1; rw [Heap.size_push, z1]
  have z3 : (hz2 s.heap o1 o2).objs.size = s.heap.objs.size + 3 := by unfold hz2; rw [Heap.size_push, z2]
  have z4 : (hz3 s.heap o1 o2).objs.size = s.heap.objs.size + 4 := by unfold hz3; rw [Heap.size_push, z3]
  have up2 : ∀ c o, (hz1 s.heap o1 o2).get? c = some o → (hz2 s.heap o1 o2).get? c = some o := fun c o e => Heap.get?_push_of_some _ e
  have up3 : ∀ c o, (hz2 s.heap o1 o2).get? c = some o → (hz3 s.heap o1 o2).get? c = some o := fun c o e => Heap.get?_push_of_some _ e
  have up4 : ∀ c o, (hz3 s.heap o1 o2).get? c = some o → (hz4 s.heap o1 o2).get? c = some o := fun c o e => Heap.get?_push_of_some _ e
  have gz : (hz4 s.heap o1 o2).get? (hz3 s.heap o1 o2).objs.size = some _ := Heap.get?_push_size _ rfl
  have gO : (hz4 s.heap o1 o2).get? (hz2 s.heap o1 o2).objs.size = some _ := up4 _ _ (Heap.get?_push_size _ rfl)
  have gT : (hz4 s.heap o1 o2).get? (hz1 s.heap o1 o2).objs.size = some _ := up4 _ _ (up3 _ _ (Heap.get?_push_size _ rfl))
  have g2 : (hz4 s.heap o1 o2).get? (s.heap.push o1).objs.size = some o2 := up4 _ _ (up3 _ _ (up2 _ _ (Heap.get?_push_size _ B2.free)))
  have g1 : (hz4 s.heap o1 o2).get? s.heap.objs.size = some o1 := up4 _ _ (up3 _ _ (up2 _ _ (Heap.get?_push_of_some _ (Heap.get?_push_size _ B1.free))))
  have gold : ∀ c o, s.heap.get? c = some o → (hz4 s.heap o1 o2).get? c = some o := fun c o e => up4 _ _ (up3 _ _ (up2 _ _ (Heap.get?_push_of_some _ (Heap.get?_push_of_some _ e))))
  show _ ∧ _
  rw [z4, z3, z2] at gz
  rw [z3] at gO
  rw [z2, z1] at gT
  rw [z1] at g2
  rw [z4]
  exact ⟨⟨_, gz, rfl⟩, q _ gz gT gO g1 g2 gold⟩
theorem callWith_tkw {M : Model} {pos : Pos} {T : String} {first : List Value} {args : List (Bool × Sem Value)} {keywords : List (Option Str × Sem Value)} {Q : Value → Shared → Prop} (hp : args.any (·.1) = false) (hk : keywords.any (·.1.isNone) = false)
    (h : wpAny M A (evalArgs (.type T) true args keywords) (fun a s₁ => wpAny M A (call (.type T) (first ++ a.pos) a.kw) Q E s₁) E s) : wpAny M A (callWith pos (.type T) first args keywords) Q E s := by
  unfold callWith
  refine wpAny_bind (wpAny_holding (wpAny_mono h (fun a s₁ h₁ => wpAny_bind (wpAny_standAt ?_)) fun _ _ x => x))
  simp only [hp, hk, Bool.or_false]
  refine wpAny_bind (wpAny_pure ?_)
  exact wpAny_bind (wpAny_mono h₁ (fun r s₂ hr => wpAny_bind (wpAny_holding (wpAny_point (wpAny_pure hr)))) fun _ _ x => x)
end
def iZs (K : PySem.W.Frag) (ta : TA) : TI := fun σ H R => ta σ H fun vs H1 => ∃ (k l : Bool) (a b : Addr) (xs ys : List V), vs = [.ref a, .ref b] ∧ SqK k K H1 a xs ∧ SqK l K H1 b ys ∧
  R { Itm k l K a b with stop := fun i H => ∃ xs ys : List V, SqK k K H a xs ∧ SqK l K H b ys ∧ i = xs.length ∧ i = ys.length } H1
theorem pi_zs {X : Cx} {e e2 : Expr} {ta : TA} {p pos tpos cp kp : Pos} {kf : Nat} {elts : List Expr} {kk : Nat} (hg : Gl X "zip") (hm : X.mg "zip" = none) (ha : PA X [e, e2] ta)
    (hs : starEach [e, e2] X.env = (false, eval e X.env) :: starEach [e2] X.env) (hpl : (backTo pos (starEach [e, e2] X.env)).any (·.1) = false) :
    PI X (.Tuple elts kk tpos) (.Call (.Name "zip" p) [e, e2] [⟨some (Str.ofString "strict"), .Constant (.bool true) kf cp, kp⟩] pos) (iZs X.K ta) := by
  refine ⟨fun pins s σ H R I h => ?_⟩
  refine wpAny_Call_Name_kw (ld_blt I hg hm PyProof.Rows.boot_zip ?_)
  refine callWith_tkw hpl rfl ?_
  have he : backTo pos (starEach [e, e2] X.env) = (false, eval e X.env) :: backTo pos (starEach [e2] X.env) := by rw [hs]; rfl
  rw [he]
  refine PyProof.Rows.evalArgs_kwB rfl ?_
  rw [← he]
  refine thn (ha.run pos pins s σ H _ I h) fun us s1 ⟨vs, H1, I1, r1, q1⟩ => ?_
  refine PyProof.Rows.kws_cons (wpAny_pure ?_)
  refine PyProof.Rows.kws_nil ?_
  obtain ⟨k, l, a, b, xs, ys, rfl, hx, hy, q⟩ := q1
  cases r1 with
  | cons ra r1 =>
  cases r1 with
  | cons rb r1 =>
  cases r1
  cases ra
  cases rb
  obtain ⟨us, ru, ou⟩ := seqK k I1 hx
  obtain ⟨ws, rw', ow⟩ := seqK l I1 hy
  have la := onK_lt ou
  have lb := onK_lt ow
  refine begins_strict (beginsK k a us.toArray) (beginsK l b ws.toArray) ou ow fun h' z1 z2 z3 z4 z5 hk => iter_szip z1 ?_
  have S := zip_sep2 (N := s1.heap.objs.size) (fp1 := [a]) (fp2 := [b]) (by simpa using la) (by simpa using lb)
  have I2 : Inv X pins σ H1 { s1 with heap := h' } := I1.kept (t' := s1.toks) hk
  refine ⟨_, [_, _, _, _, _], _, _, H1, rfl, I2, turnS k l S (Nat.ne_of_lt la) (Nat.ne_of_lt (Nat.lt_succ_of_lt lb)), ⟨z1, z2, ⟨_, _, z3⟩, itK_new z4, itK_new z5⟩, fun c hcm => ?_, q⟩
  have ge : s1.heap.objs.size ≤ c := by
    simp only [List.mem_cons, List.not_mem_nil, or_false] at hcm
    rcases hcm with rfl | rfl | rfl | rfl | rfl
    · exact Nat.le_add_right _ 4
    · exact Nat.le_add_right _ 2
    · exact Nat.le_add_right _ 3
    · exact Nat.le_refl _
    · exact Nat.le_add_right _ 1
  exact I1.fpOk ge (I1.hok.fresh ge)
end EV

set_option Elab.async false
set_option linter.all false
set_option maxRecDepth 100000
set_option maxHeartbeats 4000000
/-! EVZ4: zip of two sequences for a target that is one name: the tuple told last may still be held. -/
namespace EV
open PySem PySem.Spec L2 PyProof.Rows
/-- a zip that is not strict, whatever it remembers of its last tuple -/
def NZip (h : Heap) (z TI TO : Addr) (f0 f1 : Value) : Prop :=
  h.get? z = some { cls := .type "zip", dict := none, data := .fields #[f0, f1, .bool false, .ref TI, .ref TO], slots := #[] }
/-- what it may remember -/
def Last (f0 f1 : Value) : Prop := f0 = .none ∨ ∃ a : Addr, f0 = rawInt a
section
variable {P : Program} {w : World} {A : Around} {E : Value → Shared → Prop} {s : Shared} {z TI TO i1 i2 it : Addr} {fp fp1 fp2 : List Addr} {n n1 n2 i : Nat} {R R1 R2 : Nat → Value → Prop} {St St1 St2 : Nat → Heap → Prop} {a1 a2 f0 f1 : Value}
theorem w_alive {M : Model} {a : Addr} {Q : Option Obj → Shared → Prop} (q : Q (s.heap.get? a) s) : wpAny M A (loadIfAlive a) Q E s := fun _ _ _ => q
/-- whether the tuple is free: both ways -/
theorem free_case {Q : Bool → Shared → Prop} (hz : NZip s.heap z TI TO f0 f1) (hl : Last f0 f1) (q1 : Q true s)
    (q2 : ∀ h' g1, NZip h' z TI TO f0 g1 → Heap.SameBut z s.heap h' → Q false { s with heap := h' }) : wpAny (model P w) A (Builtin.SmallTypes.ownedTupleIsFree (.ref z)) Q E s := by
  unfold Builtin.SmallTypes.ownedTupleIsFree
  refine wpAny_bind (wpAny_field hz rfl (x := f0) rfl ?_)
  rcases hl with rfl | ⟨a, rfl⟩
  · exact wpAny_pure q1
  · show wpAny _ _ (loadIfAlive ((a : Int)).toNat >>= _) _ _ _
    refine wpAny_bind (w_alive ?_)
    cases ea : s.heap.get? ((a : Int)).toNat with
    | none => exact wpAny_pure q1
    | some o =>
      show wpAny _ _ (field (.ref z) 1 >>= _) _ _ _
      refine wpAny_bind (wpAny_field hz rfl (x := f1) rfl ?_)
      by_cases c : (f1 != .bool true) = true
      · simp only [c, if_true]
        refine wpAny_bind (wpAny_setField_rec hz (by simp) fun h' hz' hs' => ?_)
        exact wpAny_pure (q2 h' _ hz' hs')
      · simp only [c, if_false]
        exact wpAny_pure (q2 s.heap f1 hz ⟨rfl, fun _ _ => rfl⟩)
theorem nz_item {Q : Value → Shared → Prop} (S : ZipSep2 z TI TO i1 i2 fp1 fp2) (D1 : Draws P w A i1 fp1 n1 R1 St1) (D2 : Draws P w A i2 fp2 n2 R2 St2)
    (hz : NZip s.heap z TI TO f0 f1) (hl : Last f0 f1) (hTI : IsTupOf2 s.heap TI (.ref i1) (.ref i2)) (hTO : IsTupOf2 s.heap TO a1 a2) (st1 : St1 i s.heap) (st2 : St2 i s.heap) (lt1 : i < n1) (lt2 : i < n2)
    (q : ∀ x1 x2 h' tk g0 g1, R1 i x1 → R2 i x2 → NZip h' z TI TO g0 g1 → Last g0 g1 → (∃ b1 b2, IsTupOf2 h' TO b1 b2) → St1 (i + 1) h' → St2 (i + 1) h' → IsTupOf2 h' s.heap.objs.size x1 x2 →
      (∀ c o, c ≠ z → c ≠ TO → c ≠ i1 → c ≠ i2 → s.heap.get? c = some o → h'.get? c = some o) → Q (.ref s.heap.objs.size) { s with heap := h', toks := tk }) :
    wpAny (model P w) A (Builtin.«zip.__next__» ⟨[.ref z], []⟩) (fun fin s' => ∃ v, fin = .done (.ret v) ∧ Q v s') E s := by
  obtain ⟨h0, gn, dr, tk0, os⟩ := s
  show wpAny _ _ (field (.ref z) 2 >>= _) _ _ _
  refine wpAny_bind (wpAny_field hz rfl (x := .bool false) rfl ?_)
  show wpAny _ _ (field (.ref z) 3 >>= _) _ _ _
  refine wpAny_bind (wpAny_field hz rfl (x := .ref TI) rfl (wpAny_bind (wpAny_seqItems hTI rfl ?_)))
  show wpAny _ _ (Builtin.SmallTypes.ownedTupleIsFree (.ref z) >>= _) _ _ _
  refine wpAny_bind (free_case (s := ⟨h0, gn, dr, tk0, os⟩) hz hl ?_ fun h' g1 hz' hs' => ?_)
  · simp only [if_true]
    refine wpAny_bind (wpAny_rule (wpAny_bind (wpAny_field hz rfl (x := .ref TO) rfl (wpAny_bind (wpAny_setField_rec hz (by simp) fun ha hza sa => ?_)))))
    replace hza : NZip ha z TI TO .ellipsis f1 := hza
    replace sa : Heap.SameBut z h0 ha := sa
    refine wpAny_bind ?_
    simp only [List.zipIdx_cons, List.zipIdx_nil, List.forIn_cons, List.forIn_nil]
    refine wpAny_bind (wpAny_bind (wpAny_onRaise ?_))
    show wpAny _ _ (Builtin.SmallTypes.nextOf (.ref i1) >>= _) _ _ ⟨ha, gn, dr, tk0, os⟩
    refine wpAny_bind (D1.item i _ _ _ lt1 (D1.over st1 sa S.zf1) fun x1 hb tkb r1 sn1 sb => wpAny_pure ?_)
    replace sb : Heap.SameBut i1 ha hb := sb
    have tb : IsTupOf2 hb TO a1 a2 := sb.extBut _ _ S.Ti1 (sa.extBut _ _ S.TOz hTO)
    refine wpAny_bind (wpAny_seqItems (s := ⟨hb, gn, dr, tkb, os⟩) tb rfl (wpAny_bind (updateSeq_IsTupOf2 (s := ⟨hb, gn, dr, tkb, os⟩) tb fun hc tc sc => ?_)))
    replace tc : IsTupOf2 hc TO x1 a2 := tc
    replace sc : Heap.SameBut TO hb hc := sc
    refine wpAny_bind (wpAny_letGo (wpAny_pure ?_))
    refine wpAny_bind (wpAny_bind (wpAny_onRaise ?_))
    show wpAny _ _ (Builtin.SmallTypes.nextOf (.ref i2) >>= _) _ _ ⟨hc, gn, dr, tkb, os⟩
    refine wpAny_bind (D2.item i _ _ _ lt2 (D2.over (D2.over (D2.over st2 sa S.zf2) sb S.sep1_2) sc S.Tf2) fun x2 hd tkd r2 sn2 sd => wpAny_pure ?_)
    replace sd : Heap.SameBut i2 hc hd := sd
    have td : IsTupOf2 hd TO x1 a2 := sd.extBut _ _ S.Ti2 tc
    refine wpAny_bind (wpAny_seqItems (s := ⟨hd, gn, dr, tkd, os⟩) td rfl (wpAny_bind (updateSeq_IsTupOf2 (s := ⟨hd, gn, dr, tkd, os⟩) td fun he te se => ?_)))
    replace te : IsTupOf2 he TO x1 x2 := te
    replace se : Heap.SameBut TO hd he := se
    refine wpAny_bind (wpAny_letGo (wpAny_pure (wpAny_pure ?_)))
    refine wpAny_bind (wpAny_seqItems (s := ⟨he, gn, dr, tkd, os⟩) te rfl (wpAny_bind (wpAny_newTuple ?_)))
    have size : he.objs.size = h0.objs.size := by rw [se.1, sd.1, sc.1, sb.1, sa.1]
    have ze : NZip he z TI TO .ellipsis f1 := se.extBut _ _ S.TOz.symm (sd.extBut _ _ S.zi2 (sc.extBut _ _ S.TOz.symm (sb.extBut _ _ S.zi1 hza)))
    have old : ∀ c o, c ≠ z → c ≠ TO → c ≠ i1 → c ≠ i2 → h0.get? c = some o → he.get? c = some o := fun c o cz cT c1 c2 e =>
      se.extBut _ _ cT (sd.extBut _ _ c2 (sc.extBut _ _ cT (sb.extBut _ _ c1 (sa.extBut _ _ cz e))))
    have f1' : St1 (i + 1) he := D1.over (D1.over (D1.over sn1 sc S.Tf1) sd S.sep2_1) se S.Tf1
    have f2' : St2 (i + 1) he := D2.over sn2 se S.Tf2
    have lt := Heap.lt_size ze
    show wpAny _ _ (Builtin.SmallTypes.ownedTupleHandOut (.ref z) (.ref he.objs.size) >>= _) _ _ ⟨he.push { cls := .type "tuple", data := .seq #[x1, x2] }, gn, dr, tkd, os⟩
    refine wpAny_bind ?_
    unfold Builtin.SmallTypes.ownedTupleHandOut
    have zp : NZip (he.push { cls := .type "tuple", data := .seq #[x1, x2] }) z TI TO .ellipsis f1 := Heap.get?_push_of_some _ ze
    refine wpAny_bind (wpAny_setField_rec zp (by simp) fun hf zf sf => ?_)
    replace zf : NZip hf z TI TO (rawInt he.objs.size) f1 := zf
    refine wpAny_setField_rec zf (by simp) fun hg zg sg => wpAny_pure ⟨_, rfl, ?_⟩
    replace zg : NZip hg z TI TO (rawInt he.objs.size) (.bool false) := zg
    replace sf : Heap.SameBut z (he.push { cls := .type "tuple", data := .seq #[x1, x2] }) hf := sf
    replace sg : Heap.SameBut z hf hg := sg
    have up : ∀ c o, c ≠ z → he.get? c = some o → hg.get? c = some o := fun c o cz e => sg.extBut _ _ cz (sf.extBut _ _ cz (Heap.get?_push_of_some _ e))
    have tg : IsTupOf2 hg he.objs.size x1 x2 := sg.extBut _ _ (Nat.ne_of_gt lt) (sf.extBut _ _ (Nat.ne_of_gt lt) (Heap.get?_push_size _ rfl))
    show Q (.ref he.objs.size) ⟨hg, gn, dr, tkd, os⟩
    rw [size] at zg tg ⊢
    exact q x1 x2 hg tkd _ _ r1 r2 zg (.inr ⟨_, rfl⟩) ⟨_, _, up _ _ S.TOz te⟩ (D1.frame _ _ _ f1' fun b hb o e => up b o (fun y => S.zf1 (y ▸ hb)) e) (D2.frame _ _ _ f2' fun b hb o e => up b o (fun y => S.zf2 (y ▸ hb)) e) tg fun c o cz cT c1 c2 e => up c o cz (old c o cz cT c1 c2 e)
  · replace hs' : Heap.SameBut z h0 h' := hs'
    simp only [Bool.false_eq_true, if_false, ← Array.forIn_toList, List.forIn_cons, List.forIn_nil]
    refine wpAny_bind (wpAny_bind (wpAny_bind (wpAny_holding ?_)))
    show wpAny _ _ (Builtin.SmallTypes.nextOf (.ref i1) >>= _) _ _ ⟨h', gn, dr, tk0, os⟩
    refine wpAny_bind (D1.item i _ _ _ lt1 (D1.over st1 hs' S.zf1) fun x1 hb tkb r1 sn1 sb => wpAny_pure ?_)
    replace sb : Heap.SameBut i1 h' hb := sb
    refine wpAny_pure ?_
    simp only []
    refine wpAny_bind (wpAny_bind (wpAny_holding ?_))
    show wpAny _ _ (Builtin.SmallTypes.nextOf (.ref i2) >>= _) _ _ ⟨hb, gn, dr, tkb, os⟩
    refine wpAny_bind (D2.item i _ _ _ lt2 (D2.over (D2.over st2 hs' S.zf2) sb S.sep1_2) fun x2 hd tkd r2 sn2 sd => wpAny_pure ?_)
    replace sd : Heap.SameBut i2 hb hd := sd
    refine wpAny_pure (wpAny_pure ?_)
    show wpAny _ _ (newTuple [x1, x2] >>= fun v => ret v) _ _ ⟨hd, gn, dr, tkd, os⟩
    refine wpAny_bind (wpAny_newTuple (wpAny_pure ⟨_, rfl, ?_⟩))
    have size : hd.objs.size = h0.objs.size := by rw [sd.1, sb.1, hs'.1]
    have zd : NZip hd z TI TO f0 g1 := sd.extBut _ _ S.zi2 (sb.extBut _ _ S.zi1 hz')
    have td : IsTupOf2 hd TO a1 a2 := sd.extBut _ _ S.Ti2 (sb.extBut _ _ S.Ti1 (hs'.extBut _ _ S.TOz hTO))
    have old : ∀ c o, c ≠ z → c ≠ TO → c ≠ i1 → c ≠ i2 → h0.get? c = some o → hd.get? c = some o := fun c o cz cT c1 c2 e =>
      sd.extBut _ _ c2 (sb.extBut _ _ c1 (hs'.extBut _ _ cz e))
    have f1' : St1 (i + 1) hd := D1.over sn1 sd S.sep2_1
    have up : ∀ c o, hd.get? c = some o → (hd.push { cls := .type "tuple", data := .seq #[x1, x2] }).get? c = some o := fun c o e => Heap.get?_push_of_some _ e
    have tg : IsTupOf2 (hd.push { cls := .type "tuple", data := .seq #[x1, x2] }) hd.objs.size x1 x2 := Heap.get?_push_size _ rfl
    show Q (.ref hd.objs.size) ⟨hd.push { cls := .type "tuple", data := .seq #[x1, x2] }, gn, dr, tkd, os⟩
    rw [size] at tg ⊢
    exact q x1 x2 _ tkd f0 g1 r1 r2 (up _ _ zd) hl ⟨_, _, up _ _ td⟩ (D1.frame _ _ _ f1' fun b hb o e => up b o e) (D2.frame _ _ _ sn2 fun b hb o e => up b o e) tg fun c o cz cT c1 c2 e => up c o (old c o cz cT c1 c2 e)
theorem nz_end {Q : Fin → Shared → Prop} (S : ZipSep2 z TI TO i1 i2 fp1 fp2) (D1 : Draws P w A i1 fp1 n1 R1 St1) (D2 : Draws P w A i2 fp2 n2 R2 St2)
    (hz : NZip s.heap z TI TO f0 f1) (hl : Last f0 f1) (hTI : IsTupOf2 s.heap TI (.ref i1) (.ref i2)) (hTO : IsTupOf2 s.heap TO a1 a2) (st1 : St1 i s.heap) (st2 : St2 i s.heap) (le1 : i ≤ n1) (le2 : i ≤ n2) (hend : i = n1 ∨ i = n2)
    (q : ∀ h' tk e, (∀ c o, c ≠ z → c ≠ TO → c ≠ i1 → c ≠ i2 → s.heap.get? c = some o → h'.get? c = some o) → (∃ o, h'.get? e = some o ∧ o.cls = .type "StopIteration") → E (.ref e) { s with heap := h', toks := tk }) :
    wpAny (model P w) A (Builtin.«zip.__next__» ⟨[.ref z], []⟩) Q E s := by
  obtain ⟨h0, gn, dr, tk0, os⟩ := s
  show wpAny _ _ (field (.ref z) 2 >>= _) _ _ _
  refine wpAny_bind (wpAny_field hz rfl (x := .bool false) rfl ?_)
  show wpAny _ _ (field (.ref z) 3 >>= _) _ _ _
  refine wpAny_bind (wpAny_field hz rfl (x := .ref TI) rfl (wpAny_bind (wpAny_seqItems hTI rfl ?_)))
  show wpAny _ _ (Builtin.SmallTypes.ownedTupleIsFree (.ref z) >>= _) _ _ _
  refine wpAny_bind (free_case (s := ⟨h0, gn, dr, tk0, os⟩) hz hl ?_ fun h' g1 hz' hs' => ?_)
  · simp only [if_true]
    refine wpAny_bind (wpAny_rule (wpAny_bind (wpAny_field hz rfl (x := .ref TO) rfl (wpAny_bind (wpAny_setField_rec hz (by simp) fun ha hza sa => ?_)))))
    replace hza : NZip ha z TI TO .ellipsis f1 := hza
    replace sa : Heap.SameBut z h0 ha := sa
    refine wpAny_bind ?_
    simp only [List.zipIdx_cons, List.zipIdx_nil, List.forIn_cons, List.forIn_nil]
    refine wpAny_bind (wpAny_bind (wpAny_onRaise ?_))
    show wpAny _ _ (Builtin.SmallTypes.nextOf (.ref i1) >>= _) _ _ ⟨ha, gn, dr, tk0, os⟩
    by_cases lt1 : i < n1
    · refine wpAny_bind (D1.item i _ _ _ lt1 (D1.over st1 sa S.zf1) fun x1 hb tkb r1 sn1 sb => wpAny_pure ?_)
      replace sb : Heap.SameBut i1 ha hb := sb
      have tb : IsTupOf2 hb TO a1 a2 := sb.extBut _ _ S.Ti1 (sa.extBut _ _ S.TOz hTO)
      refine wpAny_bind (wpAny_seqItems (s := ⟨hb, gn, dr, tkb, os⟩) tb rfl (wpAny_bind (updateSeq_IsTupOf2 (s := ⟨hb, gn, dr, tkb, os⟩) tb fun hc tc sc => ?_)))
      replace sc : Heap.SameBut TO hb hc := sc
      refine wpAny_bind (wpAny_letGo (wpAny_pure ?_))
      have hi2 : i = n2 := by omega
      refine wpAny_bind (wpAny_bind (wpAny_onRaise ?_))
      show wpAny _ _ (Builtin.SmallTypes.nextOf (.ref i2) >>= _) _ _ ⟨hc, gn, dr, tkb, os⟩
      refine wpAny_bind (D2.done ⟨hc, gn, dr, tkb, os⟩ _ _ (by rw [← hi2]; exact (D2.over (D2.over (D2.over st2 sa S.zf2) sb S.sep1_2) sc S.Tf2)) fun hd e hq he => ?_)
      replace hq : Heap.ExtBut i2 hc hd := hq
      obtain ⟨oe, hoe, hce⟩ := he
      replace hoe : hd.get? e = some oe := hoe
      have hzq : NZip hd z TI TO .ellipsis f1 := hq _ _ S.zi2 (sc.extBut _ _ S.TOz.symm (sb.extBut _ _ S.zi1 hza))
      have hez : e ≠ z := fun x => by subst x; rw [hzq] at hoe; cases hoe; simp at hce
      refine wpAny_setField_rec (s := ⟨hd, gn, dr, tkb, os⟩) hzq (by simp) fun he2 _ hq' => ?_
      replace hq' : Heap.SameBut z hd he2 := hq'
      exact q he2 tkb e (fun c o cz cT c1 c2 x => hq'.extBut _ _ cz (hq _ _ c2 (sc.extBut _ _ cT (sb.extBut _ _ c1 (sa.extBut _ _ cz x))))) ⟨oe, hq'.extBut _ _ hez hoe, hce⟩
    · have hi1 : i = n1 := by omega
      refine wpAny_bind (D1.done ⟨ha, gn, dr, tk0, os⟩ _ _ (by rw [← hi1]; exact (D1.over st1 sa S.zf1)) fun hd e hq he => ?_)
      replace hq : Heap.ExtBut i1 ha hd := hq
      obtain ⟨oe, hoe, hce⟩ := he
      replace hoe : hd.get? e = some oe := hoe
      have hzq : NZip hd z TI TO .ellipsis f1 := hq _ _ S.zi1 hza
      have hez : e ≠ z := fun x => by subst x; rw [hzq] at hoe; cases hoe; simp at hce
      refine wpAny_setField_rec (s := ⟨hd, gn, dr, tk0, os⟩) hzq (by simp) fun he2 _ hq' => ?_
      replace hq' : Heap.SameBut z hd he2 := hq'
      exact q he2 tk0 e (fun c o cz cT c1 c2 x => hq'.extBut _ _ cz (hq _ _ c1 (sa.extBut _ _ cz x))) ⟨oe, hq'.extBut _ _ hez hoe, hce⟩
  · replace hs' : Heap.SameBut z h0 h' := hs'
    simp only [Bool.false_eq_true, if_false, ← Array.forIn_toList, List.forIn_cons, List.forIn_nil]
    refine wpAny_bind (wpAny_bind (wpAny_bind (wpAny_holding ?_)))
    show wpAny _ _ (Builtin.SmallTypes.nextOf (.ref i1) >>= _) _ _ ⟨h', gn, dr, tk0, os⟩
    by_cases lt1 : i < n1
    · refine wpAny_bind (D1.item i _ _ _ lt1 (D1.over st1 hs' S.zf1) fun x1 hb tkb r1 sn1 sb => wpAny_pure ?_)
      replace sb : Heap.SameBut i1 h' hb := sb
      refine wpAny_pure ?_
      simp only []
      have hi2 : i = n2 := by omega
      refine wpAny_bind (wpAny_bind (wpAny_holding ?_))
      show wpAny _ _ (Builtin.SmallTypes.nextOf (.ref i2) >>= _) _ _ ⟨hb, gn, dr, tkb, os⟩
      refine wpAny_bind (D2.done ⟨hb, gn, dr, tkb, os⟩ _ _ (by rw [← hi2]; exact (D2.over (D2.over st2 hs' S.zf2) sb S.sep1_2)) fun hd e hq he => ?_)
      replace hq : Heap.ExtBut i2 hb hd := hq
      exact q hd tkb e (fun c o cz cT c1 c2 x => hq _ _ c2 (sb.extBut _ _ c1 (hs'.extBut _ _ cz x))) he
    · have hi1 : i = n1 := by omega
      refine wpAny_bind (D1.done ⟨h', gn, dr, tk0, os⟩ _ _ (by rw [← hi1]; exact (D1.over st1 hs' S.zf1)) fun hd e hq he => ?_)
      replace hq : Heap.ExtBut i1 h' hd := hq
      exact q hd tk0 e (fun c o cz cT c1 c2 x => hq _ _ c1 (hs'.extBut _ _ cz x)) he
theorem next_nz {Q : Option Value → Shared → Prop} (S : ZipSep2 z TI TO i1 i2 fp1 fp2) (D1 : Draws P w A.in1 i1 fp1 n1 R1 St1) (D2 : Draws P w A.in1 i2 fp2 n2 R2 St2)
    (hz : NZip s.heap z TI TO f0 f1) (hl : Last f0 f1) (hTI : IsTupOf2 s.heap TI (.ref i1) (.ref i2)) (hTO : IsTupOf2 s.heap TO a1 a2) (st1 : St1 i s.heap) (st2 : St2 i s.heap) (lt1 : i < n1) (lt2 : i < n2)
    (q : ∀ x1 x2 h' tk g0 g1, R1 i x1 → R2 i x2 → NZip h' z TI TO g0 g1 → Last g0 g1 → (∃ b1 b2, IsTupOf2 h' TO b1 b2) → St1 (i + 1) h' → St2 (i + 1) h' → IsTupOf2 h' s.heap.objs.size x1 x2 →
      (∀ c o, c ≠ z → c ≠ TO → c ≠ i1 → c ≠ i2 → s.heap.get? c = some o → h'.get? c = some o) → Q (some (.ref s.heap.objs.size)) { s with heap := h', toks := tk }) :
    wpAny (model P w) A (pyNext (.ref z)) Q E s := by
  have ty : s.TypeIs (.ref z) "zip" := ⟨_, hz, rfl⟩
  unfold pyNext
  refine wpAny_bind (wpAny_attempt (wpAny_callSpecial?_slot (name := Str.ofString "__next__") ty F.slot_zip_next (wpAny_call_entry F.slot_zip_next ty F.entry_zip_next ?_ (F.args_zip_next_1 _))))
  exact nz_item S D1 D2 hz hl hTI hTO st1 st2 lt1 lt2 fun x1 x2 h' tk g0 g1 b1 b2 b3 b4 b5 b6 b7 b8 b9 => wpAny_pure (q x1 x2 h' tk g0 g1 b1 b2 b3 b4 b5 b6 b7 b8 b9)
theorem stop_nz {Q : Option Value → Shared → Prop} (S : ZipSep2 z TI TO i1 i2 fp1 fp2) (D1 : Draws P w A.in1 i1 fp1 n1 R1 St1) (D2 : Draws P w A.in1 i2 fp2 n2 R2 St2)
    (hz : NZip s.heap z TI TO f0 f1) (hl : Last f0 f1) (hTI : IsTupOf2 s.heap TI (.ref i1) (.ref i2)) (hTO : IsTupOf2 s.heap TO a1 a2) (st1 : St1 i s.heap) (st2 : St2 i s.heap) (le1 : i ≤ n1) (le2 : i ≤ n2) (hend : i = n1 ∨ i = n2)
    (q : ∀ h' tk, (∀ c o, c ≠ z → c ≠ TO → c ≠ i1 → c ≠ i2 → s.heap.get? c = some o → h'.get? c = some o) → Q none { s with heap := h', toks := tk }) :
    wpAny (model P w) A (pyNext (.ref z)) Q E s := by
  have ty : s.TypeIs (.ref z) "zip" := ⟨_, hz, rfl⟩
  unfold pyNext
  refine wpAny_bind (wpAny_attempt (wpAny_callSpecial?_slot (name := Str.ofString "__next__") ty F.slot_zip_next (wpAny_call_entry F.slot_zip_next ty F.entry_zip_next ?_ (F.args_zip_next_1 _))))
  refine nz_end S D1 D2 hz hl hTI hTO st1 st2 le1 le2 hend fun h' tk e hk he => ?_
  obtain ⟨o, ho, hc⟩ := he
  exact wpAny_bind (wpAny_isInstance (T := "StopIteration") (b := true) ⟨o, ho, hc⟩ isSubtype_stop (wpAny_pure (q _ _ hk)))
theorem iter_nz {Q : Value → Shared → Prop} (hz : NZip s.heap z TI TO f0 f1) (q : Q (.ref z) s) : wpAny (model P w) A (pyIter (.ref z)) Q E s := by
  have ty : s.TypeIs (.ref z) "zip" := ⟨_, hz, rfl⟩
  refine wpAny_pyIter_slot ty F.slot_zip_iter (wpAny_call_entry F.slot_zip_iter ty F.entry_zip_iter ?_ (F.args_zip_iter_1 _))
  show wpAny _ _ (ret (.ref z)) _ _ s
  exact wpAny_pure ⟨_, rfl, "zip", _, ty, F.slot_zip_next.lookup, q⟩
end
end EV

set_option Elab.async false
set_option linter.all false
set_option maxRecDepth 100000
set_option maxHeartbeats 4000000
/-! EVZ5: zip of two sequences for a target that is one name, as the hand layer asks for it. -/
namespace EV
open PySem PySem.Spec L2 PyProof.Rows
theorem turnN {P : Program} {w : World} {K : PySem.W.Frag} {nm : Str} {tpos : Pos} (k l : Bool) {a b z TI TO i1 i2 : Addr} (S : ZipSep2 z TI TO i1 i2 [i1, a] [i2, b]) (n1 : a ≠ i1) (n2 : b ≠ i2) :
    Turn P w K (.Name nm tpos) (Itm k l K a b) [z, TI, TO, i1, i2] z (fun i h => (∃ f0 f1, NZip h z TI TO f0 f1 ∧ Last f0 f1) ∧ IsTupOf2 h TI (.ref i1) (.ref i2) ∧ (∃ x y, IsTupOf2 h TO x y) ∧ ItK k h i1 a i ∧ ItK l h i2 b i) where
  mem := List.mem_cons_self
  obj := fun i h st c hc => by
    obtain ⟨⟨f0, f1, q1, _⟩, q2, ⟨x, y, q3⟩, q4, q5⟩ := st
    simp only [List.mem_cons, List.not_mem_nil, or_false] at hc
    rcases hc with rfl | rfl | rfl | rfl | rfl
    · exact ⟨_, q1, fun v e => nomatch e⟩
    · exact ⟨_, q2, fun v e => nomatch e⟩
    · exact ⟨_, q3, fun v e => nomatch e⟩
    · exact itK_ob q4
    · exact itK_ob q5
  keep := fun i h h' st q => by
    obtain ⟨⟨f0, f1, q1, ql⟩, q2, ⟨x, y, q3⟩, q4, q5⟩ := st
    exact ⟨⟨f0, f1, q z (by simp) _ q1, ql⟩, q TI (by simp) _ q2, ⟨x, y, q TO (by simp) _ q3⟩, itK_at q4 (q i1 (by simp)), itK_at q5 (q i2 (by simp))⟩
  item := by
    intro X hP hw hK hc i pins s σ H E I hf st hg
    subst hP hw hK
    obtain ⟨⟨f0, f1, q1, ql⟩, q2, ⟨x0, y0, q3⟩, q4, q5⟩ := st
    obtain ⟨xs, ys, x, y, hx, hy, gx, gy⟩ := hg
    obtain ⟨us, ru, ou⟩ := seqK k I hx
    obtain ⟨vs, rv, ov⟩ := seqK l I hy
    have hh : X.A.in1.handled = none := I.ok.hd hc
    obtain ⟨u, eu, rxu⟩ := ru.get gx
    obtain ⟨v, ev, ryv⟩ := rv.get gy
    have l1 : i < us.toArray.size := by simpa using (List.getElem?_eq_some_iff.mp eu).1
    have l2 : i < vs.toArray.size := by simpa using (List.getElem?_eq_some_iff.mp ev).1
    refine next_nz S (drawsK k hh i1 a n1 us.toArray) (drawsK l hh i2 b n2 vs.toArray) q1 ql q2 q3 ⟨q4, ou⟩ ⟨q5, ov⟩ l1 l2 fun u' v' h1 tk g0 g1 y1 y2 z1 zl z2 z3 z4 z5 hk => ?_
    have eu' : u' = u := by simpa [eu] using y1.symm
    have ev' : v' = v := by simpa [ev] using y2.symm
    subst eu' ev'
    refine ⟨_, rfl, wpAny_pure ?_⟩
    have lz := Heap.lt_size q1
    have new : ObjOk X.prog X.w (upd H s.heap.objs.size (.tup [x, y])) h1 s.heap.objs.size (.tup [x, y]) :=
      ⟨by show 2 ≤ sizeLine; decide, [u', v'], .cons rxu (.cons ryv .nil), ⟨_, z5, rfl, _, rfl⟩⟩
    have keepAll : ∀ c o, c ∉ [z, TI, TO, i1, i2] → s.heap.get? c = some o → h1.get? c = some o := fun c o hc e => by
      simp only [List.mem_cons, List.not_mem_nil, or_false, not_or] at hc
      exact hk c o hc.1 hc.2.2.1 hc.2.2.2.1 hc.2.2.2.2 e
    refine ⟨.ref s.heap.objs.size, _, I.turnedNew (t' := tk) keepAll hf (Nat.le_refl _) new, rfl, ⟨_, x, y, rfl, I.hok.fresh (Nat.le_refl _), rfl, fun l h => by rw [seqK_inj k I h hx]; exact gx, fun l' h => by rw [seqK_inj l I h hy]; exact gy⟩, ⟨⟨g0, g1, z1, zl⟩, ?_, z2, ?_, ?_⟩, fun c hcm => ?_⟩
    · exact hk _ _ S.TIz S.TITO S.TIi1 S.TIi2 q2
    · exact z3.1
    · exact z4.1
    · have lt : c < s.heap.objs.size := by
        simp only [List.mem_cons, List.not_mem_nil, or_false] at hcm
        rcases hcm with rfl | rfl | rfl | rfl | rfl
        · exact lz
        · exact Heap.lt_size q2
        · exact Heap.lt_size q3
        · obtain ⟨o, e, _⟩ := itK_ob q4; exact Heap.lt_size e
        · obtain ⟨o, e, _⟩ := itK_ob q5; exact Heap.lt_size e
      rw [upd_ne (Nat.ne_of_lt lt)]
      exact (hf c hcm).1
  done := by
    intro X hP hw hK hc i pins s σ H E I hf st hg
    subst hP hw hK
    obtain ⟨⟨f0, f1, q1, ql⟩, q2, ⟨x0, y0, q3⟩, q4, q5⟩ := st
    obtain ⟨xs, ys, hx, hy, le1, le2, hend⟩ := hg
    obtain ⟨us, ru, ou⟩ := seqK k I hx
    obtain ⟨vs, rv, ov⟩ := seqK l I hy
    have hh : X.A.in1.handled = none := I.ok.hd hc
    have s1 : us.toArray.size = xs.length := by simp [ru.length]
    have s2 : vs.toArray.size = ys.length := by simp [rv.length]
    refine stop_nz S (drawsK k hh i1 a n1 us.toArray) (drawsK l hh i2 b n2 vs.toArray) q1 ql q2 q3 ⟨q4, ou⟩ ⟨q5, ov⟩ (by omega) (by omega) (by omega) fun h1 tk hk => ⟨rfl, ?_⟩
    refine I.turnedL (t' := tk) (ch := [z, TI, TO, i1, i2]) (fun c o hc e => ?_) hf
    simp only [List.mem_cons, List.not_mem_nil, or_false, not_or] at hc
    exact hk c o hc.1 hc.2.2.1 hc.2.2.2.1 hc.2.2.2.2 e
  self := fun A i s Q E st h => by
    obtain ⟨⟨f0, f1, q1, _⟩, _⟩ := st
    exact iter_nz q1 h
theorem pi_zn {X : Cx} {e e2 : Expr} {ta : TA} {p pos tpos : Pos} {nm : Str} (hg : Gl X "zip") (hm : X.mg "zip" = none) (ha : PA X [e, e2] ta)
    (hs : starEach [e, e2] X.env = (false, eval e X.env) :: starEach [e2] X.env) (hpl : (backTo pos (starEach [e2] X.env)).any (·.1) = false) :
    PI X (.Name nm tpos) (.Call (.Name "zip" p) [e, e2] [] pos) (iZm X.K ta) := by
  refine ⟨fun pins s σ H R I h => ?_⟩
  refine Call_ (ld_blt I hg hm PyProof.Rows.boot_zip (PyProof.Rows.callWith_type1 (thn (ha.run pos pins s σ H _ I h) fun us s1 ⟨vs, H1, I1, r1, q1⟩ => ?_) hs hpl))
  obtain ⟨k, l, a, b, xs, ys, rfl, hx, hy, q⟩ := q1
  cases r1 with
  | cons ra r1 =>
  cases r1 with
  | cons rb r1 =>
  cases r1
  cases ra
  cases rb
  obtain ⟨us, ru, ou⟩ := seqK k I1 hx
  obtain ⟨ws, rw', ow⟩ := seqK l I1 hy
  have la := onK_lt ou
  have lb := onK_lt ow
  refine zip_begins2 (beginsK k a us.toArray) (beginsK l b ws.toArray) ou ow fun h' z1 z2 z3 z4 z5 z6 hk => wpAny_pyIter_zip z1 ?_
  have S := zip_sep2 (N := s1.heap.objs.size) (fp1 := [a]) (fp2 := [b]) (by simpa using la) (by simpa using lb)
  have I2 : Inv X pins σ H1 { s1 with heap := h' } := I1.kept (t' := s1.toks) hk
  refine ⟨_, [_, _, _, _, _], _, _, H1, rfl, I2, turnN k l S (Nat.ne_of_lt la) (Nat.ne_of_lt (Nat.lt_succ_of_lt lb)), ⟨⟨_, _, z1, .inl rfl⟩, z2, ⟨_, _, z3⟩, itK_new z4, itK_new z5⟩, fun c hcm => ?_, q⟩
  have ge : s1.heap.objs.size ≤ c := by
    simp only [List.mem_cons, List.not_mem_nil, or_false] at hcm
    rcases hcm with rfl | rfl | rfl | rfl | rfl
    · exact Nat.le_add_right _ 4
    · exact Nat.le_add_right _ 2
    · exact Nat.le_add_right _ 3
    · exact Nat.le_refl _
    · exact Nat.le_add_right _ 1
  exact I1.fpOk ge (I1.hok.fresh ge)
end EV

set_option Elab.async false
set_option linter.all false
set_option maxRecDepth 100000
set_option maxHeartbeats 4000000
/-! EVZ6: the greatest and the least of a tuple of whole numbers. -/
namespace EV
open PySem PySem.Spec L2 PyProof.Rows PySem.W
theorem alike_ints (ns : List Int) : AlikeAll (ns.map PyData.int) := alikeAll_datum ns
theorem depth_ints : ∀ ns : List Int, PyData.depthAll (ns.map PyData.int) = 0
  | [] => rfl
  | n :: ns => by simp [PyData.depthAll, PyData.depth, depth_ints ns]
theorem fold_max2 : ∀ (ns : List Int) (n : Int), ns.foldl max n ∈ n :: ns ∧ ∀ a ∈ n :: ns, a ≤ ns.foldl max n
  | [], n => by simp
  | m :: ns, n => by
    obtain ⟨a, b⟩ := fold_max2 ns (max n m)
    refine ⟨?_, ?_⟩
    · rw [List.foldl_cons]
      rcases List.mem_cons.mp a with z | z
      · rw [z]
        rcases Int.le_total n m with q | q
        · rw [Int.max_eq_right q]; simp
        · rw [Int.max_eq_left q]; simp
      · simp [z]
    · intro x hx
      rw [List.foldl_cons]
      have h0 := b _ List.mem_cons_self
      rcases List.mem_cons.mp hx with z | z
      · subst z; exact Int.le_trans (Int.le_max_left _ _) h0
      · rcases List.mem_cons.mp z with z | z
        · subst z; exact Int.le_trans (Int.le_max_right _ _) h0
        · exact b _ (List.mem_cons_of_mem _ z)
theorem fold_min2 : ∀ (ns : List Int) (n : Int), ns.foldl min n ∈ n :: ns ∧ ∀ a ∈ n :: ns, ns.foldl min n ≤ a
  | [], n => by simp
  | m :: ns, n => by
    obtain ⟨a, b⟩ := fold_min2 ns (min n m)
    refine ⟨?_, ?_⟩
    · rw [List.foldl_cons]
      rcases List.mem_cons.mp a with z | z
      · rw [z]
        rcases Int.le_total n m with q | q
        · rw [Int.min_eq_left q]; simp
        · rw [Int.min_eq_right q]; simp
      · simp [z]
    · intro x hx
      rw [List.foldl_cons]
      have h0 := b _ List.mem_cons_self
      rcases List.mem_cons.mp hx with z | z
      · subst z; exact Int.le_trans h0 (Int.min_le_left _ _)
      · rcases List.mem_cons.mp z with z | z
        · subst z; exact Int.le_trans h0 (Int.min_le_right _ _)
        · exact b _ (List.mem_cons_of_mem _ z)
def rMaxT (K : PySem.W.Frag) : List V → Hp → VK → Prop := fun vs H Q => ∃ (a : Addr) (n : Int) (ns : List Int), vs = [V.ref a] ∧ SqT K H a ((n :: ns).map V.int) ∧ ∀ m, m ∈ n :: ns → (∀ a ∈ n :: ns, a ≤ m) → Q (.int m) H
def rMinT (K : PySem.W.Frag) : List V → Hp → VK → Prop := fun vs H Q => ∃ (a : Addr) (n : Int) (ns : List Int), vs = [V.ref a] ∧ SqT K H a ((n :: ns).map V.int) ∧ ∀ m, m ∈ n :: ns → (∀ a ∈ n :: ns, m ≤ a) → Q (.int m) H
variable {X : Cx}
theorem cr_maxT (hc : X.calm = true) (hu : X.A.units + 64 < cLine) : CallR X (.builtin "max") (rMaxT X.K) := by
  intro pins s σ H vs us Q I r h
  obtain ⟨a, n, ns, rfl, hs, q⟩ := h
  obtain ⟨its, rv, hl, _⟩ := I.tuple hs
  rw [Vals.ref1 r]
  have hr := (rv.ints).reads s.heap
  refine max_tuple_data (x := .int n) (xs := ns.map .int) (I.ok.hd hc) hl hr (alike_ints (n :: ns)) ?_ fun i v h' tk bs _ hv hk => ?_
  · have := depth_ints (n :: ns)
    simp only [List.map_cons] at this
    rw [this]
    omega
  · rw [maxD_ints] at hv
    cases hv
    obtain ⟨m1, m2⟩ := fold_max2 ns n
    exact ⟨.int _, H, I.kept hk, ⟨_, rfl⟩, q _ m1 m2⟩
theorem cr_minT (hc : X.calm = true) (hu : X.A.units + 64 < cLine) : CallR X (.builtin "min") (rMinT X.K) := by
  intro pins s σ H vs us Q I r h
  obtain ⟨a, n, ns, rfl, hs, q⟩ := h
  obtain ⟨its, rv, hl, _⟩ := I.tuple hs
  rw [Vals.ref1 r]
  have hr := (rv.ints).reads s.heap
  refine min_tuple_data (x := .int n) (xs := ns.map .int) (I.ok.hd hc) hl hr (alike_ints (n :: ns)) ?_ fun i v h' tk bs _ hv hk => ?_
  · have := depth_ints (n :: ns)
    simp only [List.map_cons] at this
    rw [this]
    omega
  · rw [minD_ints] at hv
    cases hv
    obtain ⟨m1, m2⟩ := fold_min2 ns n
    exact ⟨.int _, H, I.kept hk, ⟨_, rfl⟩, q _ m1 m2⟩
end EV

set_option Elab.async false
set_option linter.all false
set_option maxRecDepth 100000
set_option maxHeartbeats 4000000
/-! EV5: calls of built-ins, of methods of built-in types. -/
namespace EV
open PySem PySem.Spec L2
def biF : Bi → Value
  | .len => .builtin "len" | .abs => .builtin "abs" | .int => .type "int" | .max => .builtin "max" | .min => .builtin "min" | .tuple => .type "tuple" | .list => .type "list"
  | .repr => .builtin "repr" | .sorted => .builtin "sorted" | .sum => .builtin "sum" | .any => .builtin "any" | .all => .builtin "all" | .str => .type "str" | .dct => .type "dict" | .set => .type "set"
def biN : Bi → Str
  | .len => "len" | .abs => "abs" | .int => "int" | .max => "max" | .min => "min" | .tuple => "tuple" | .list => "list"
  | .repr => "repr" | .sorted => "sorted" | .sum => "sum" | .any => "any" | .all => "all" | .str => "str" | .dct => "dict" | .set => "set"
theorem bi_boot (b : Bi) : bootBuiltins (biN b) = some (biF b) := by cases b <;> decide +kernel
def ArOk (K : PySem.W.Frag) (r : List V → Hp → VK → Prop) (f : List PV → EH → Rt) : Prop :=
  ∀ (φ : List Addr) (H : Hp) (h : EH) (xs : List PV) (vs : List V) (z : PV) (h' : EH) (Q : VK), Rep K φ H h → RVs K φ H xs vs → f xs h = some (z, h') → Fi K φ H h' z Q → r vs H Q

/-! ### no dict in shown data -/
theorem toD_noDictAll (h : EH) (k : Nat) (ih : ∀ p d, toD h k p = some d → d.hasDict = false) : ∀ ps ds, mapO (toD h k) ps = some ds → PyData.hasDictAll ds = false
  | [], ds, e => by cases e; rfl
  | p :: ps, ds, e => by
    unfold mapO at e
    split at e
    · cases e
    · rename_i y hy
      split at e
      · cases e
      · rename_i ys hys
        cases e
        simp only [PyData.hasDictAll, ih _ _ hy, toD_noDictAll h k ih ps ys hys, Bool.or_self]
theorem toD_noDict (h : EH) : ∀ k p d, toD h k p = some d → d.hasDict = false
  | 0, _, _, e => by cases e
  | k + 1, p, d, e => by
    cases p with
    | non => cases e; rfl
    | bl b => cases e; rfl
    | int i => cases e; rfl
    | str x => cases e; rfl
    | tup ps =>
      simp only [toD] at e
      obtain ⟨ds, e1, rfl⟩ := Option.map_eq_some_iff.mp e
      simp only [PyData.hasDict]
      exact toD_noDictAll h k (toD_noDict h k) _ _ e1
    | fl ps =>
      simp only [toD] at e
      obtain ⟨ds, e1, rfl⟩ := Option.map_eq_some_iff.mp e
      simp only [PyData.hasDict]
      exact toD_noDictAll h k (toD_noDict h k) _ _ e1
    | ref n =>
      simp only [toD] at e
      split at e
      · obtain ⟨ds, e1, rfl⟩ := Option.map_eq_some_iff.mp e
        simp only [PyData.hasDict]
        exact toD_noDictAll h k (toD_noDict h k) _ _ e1
      · cases e
section
variable {X : Cx}
def rRepr (K : PySem.W.Frag) : List V → Hp → VK → Prop := fun xs H Q => ∃ x d, xs = [x] ∧ Dp K H x d ∧ d.hasDict = false ∧ d.showable = true ∧ d.shown.length ≤ sizeLine ∧ d.depth ≤ 66 ∧ Q (.str d.shown) H
theorem call_repr (hg : X.A.guards = some []) (hu : X.A.units + 70 < cLine) : CallR X (.builtin "repr") (rRepr X.K) := by
  intro pins s σ H xs us Q I r ⟨x, d, ex, hd, h0, h1, h2, h3, q⟩
  subst ex
  obtain ⟨u, rfl, rx⟩ := vals1 r
  obtain ⟨as, rd⟩ := Dp.reads I d x u hd rx
  cases hd with
  | non =>
    cases rx
    exact PySem.P.repr_of_none ⟨.str _, H, I.tok _, ⟨_, rfl⟩, q⟩
  | bl b =>
    cases rx
    refine PySem.P.repr_of_bool ⟨.str _, H, I.tok _, ⟨_, rfl⟩, ?_⟩
    simpa [PyData.shown] using q
  | int i =>
    obtain ⟨t, rfl⟩ := rx
    exact PySem.P.repr_of_int (by simpa [PyData.showable] using h1) ⟨.str _, H, I.tok _, ⟨_, rfl⟩, by simpa [PyData.shown] using q⟩
  | str z =>
    obtain ⟨t, rfl⟩ := rx
    exact PySem.P.repr_of_str ⟨.str _, H, I.tok _, ⟨_, rfl⟩, by simpa [PyData.shown] using q⟩ (by simpa [PyData.shown] using h2)
  | lst _ _ =>
    cases rx
    refine repr_of_reads' rd h1 (fun c => by rw [h0] at c; cases c) hg (by omega) (fun _ _ e => e) (fun h' u tk hk => ?_) h2
    exact ⟨.str _, H, I.kept (t' := tk) hk, ⟨_, rfl⟩, q⟩
  | tup _ _ =>
    cases rx
    refine repr_of_reads' rd h1 (fun c => by rw [h0] at c; cases c) hg (by omega) (fun _ _ e => e) (fun h' u tk hk => ?_) h2
    exact ⟨.str _, H, I.kept (t' := tk) hk, ⟨_, rfl⟩, q⟩
/-! ### what repr shows: dicts without a pair, too -/
mutual
inductive Dq (K : PySem.W.Frag) (H : Hp) : V → PyData → Prop
  | non : Dq K H .non .none
  | bl (b : Bool) : Dq K H (.bl b) (.bool b)
  | int (i : Int) : Dq K H (.int i) (.int i)
  | str (x : Str) : Dq K H (.str x) (.str x)
  | lst {a : Addr} {xs : List V} {ds : List PyData} : H a = some (.lst xs) → DqAll K H xs ds → Dq K H (.ref a) (.list ds)
  | tup {a : Addr} {xs : List V} {ds : List PyData} : SqT K H a xs → DqAll K H xs ds → Dq K H (.ref a) (.tuple ds)
  | emp {a : Addr} : H a = some (.dK []) → Dq K H (.ref a) (.dict [])
inductive DqAll (K : PySem.W.Frag) (H : Hp) : List V → List PyData → Prop
  | nil : DqAll K H [] []
  | cons {v : V} {vs : List V} {d : PyData} {ds : List PyData} : Dq K H v d → DqAll K H vs ds → DqAll K H (v :: vs) (d :: ds)
end
section
variable {pins : List (Addr × Obj)} {σ : L2.St} {H : Hp} {s : Shared}
theorem trk_ne (hsm : ∃ o, X.base.get? sysModules = some o) (I : Inv X pins σ H s) {a : Addr} {o : HO} (e : H a = some o) : sysModules ≠ a := by
  intro z
  subst z
  obtain ⟨ob, hob⟩ := hsm
  have := (I.bs _ _ hob).2
  rw [e] at this
  cases this
mutual
theorem Dq.reads (hsm : ∃ o, X.base.get? sysModules = some o) (I : Inv X pins σ H s) : ∀ (d : PyData) (v : V) (u : Value), Dq X.K H v d → RelV v u → ∃ as, Reads s.heap u d as ∧ sysModules ∉ as
  | .none, _, _, h, r => by cases h; cases r; exact ⟨_, Reads.none, by simp⟩
  | .bool b, _, _, h, r => by cases h; cases r; exact ⟨_, Reads.bool b, by simp⟩
  | .int i, _, _, h, r => by cases h; obtain ⟨t, rfl⟩ := r; exact ⟨_, Reads.int i t, by simp⟩
  | .str x, _, _, h, r => by cases h; obtain ⟨t, rfl⟩ := r; exact ⟨_, Reads.str x t, by simp⟩
  | .list ds, _, _, h, r => by
    cases h with
    | lst hs ha =>
      cases r
      obtain ⟨its, rv, ⟨o, n, ho, hc, _, hd⟩, _⟩ := I.list (SqL.of hs)
      obtain ⟨as, hr, nm⟩ := Dq.readsAll hsm I ds _ its ha rv
      refine ⟨_, Reads.list ho hc hd hr, ?_⟩
      simp only [List.mem_cons, not_or]
      exact ⟨trk_ne hsm I hs, nm⟩
  | .tuple ds, _, _, h, r => by
    cases h with
    | tup hs ha =>
      cases r
      obtain ⟨its, rv, ⟨o, ho, hc, n, hd⟩, _⟩ := I.tuple hs
      obtain ⟨as, hr, nm⟩ := Dq.readsAll hsm I ds _ its ha rv
      exact ⟨_, Reads.tuple ho hc hd hr, nm⟩
  | .dict kvs, _, _, h, r => by
    cases h with
    | emp hs =>
      cases r
      obtain ⟨z, hd, vs, rel, o, es, ep, h1, h2, h3, h4, q5, _⟩ := dk_of I.hok hs
      have : vs = [] := by cases rel; rfl
      subst this
      have he : es.toList = [] := by
        cases hl : es.toList with
        | nil => rfl
        | cons x xs => rw [hl] at q5; cases q5
      refine ⟨_, Reads.dict (kvs := []) h1 h2.1 h3 (by rw [he]; exact .nil) (by rw [he]; exact .nil), ?_⟩
      simp only [List.append_nil, List.mem_singleton]
      exact trk_ne hsm I hs
theorem Dq.readsAll (hsm : ∃ o, X.base.get? sysModules = some o) (I : Inv X pins σ H s) : ∀ (ds : List PyData) (vs : List V) (us : List Value), DqAll X.K H vs ds → Vals vs us → ∃ as, ReadsAll s.heap us ds as ∧ sysModules ∉ as
  | [], _, _, h, r => by cases h; cases r; exact ⟨_, .nil, by simp⟩
  | d :: ds, _, _, h, r => by
    cases h with
    | cons h1 h2 =>
      cases r with
      | cons r1 r2 =>
        obtain ⟨as, a1, n1⟩ := Dq.reads hsm I d _ _ h1 r1
        obtain ⟨bs, a2, n2⟩ := Dq.readsAll hsm I ds _ _ h2 r2
        refine ⟨_, .cons a1 a2, ?_⟩
        simp only [List.mem_append, not_or]
        exact ⟨n1, n2⟩
end
end
section
variable {K : PySem.W.Frag} {φ : List Addr} {H : Hp} {h : EH}
theorem toRs (k : Nat) (ih : ∀ (p : PV) (d : PyData) (v : V), toR h k p = some d → RV K φ H p v → Dq K H v d) :
    ∀ (ps : List PV) (ds : List PyData) (vs : List V), mapO (toR h k) ps = some ds → RVs K φ H ps vs → DqAll K H vs ds
  | [], ds, vs, e, q => by cases e; cases q; exact .nil
  | p :: ps, ds, vs, e, q => by
    unfold mapO at e
    split at e
    · cases e
    · rename_i y hy
      split at e
      · cases e
      · rename_i ys hys
        cases e
        cases q with
        | cons q1 q2 => exact .cons (ih _ _ _ hy q1) (toRs k ih ps ys _ hys q2)
theorem toR_ok (r : Rep K φ H h) : ∀ (k : Nat) (p : PV) (d : PyData) (v : V), toR h k p = some d → RV K φ H p v → Dq K H v d
  | 0, _, _, _, e, _ => by cases e
  | k + 1, p, d, v, e, q => by
    cases q with
    | non => cases e; exact .non
    | bl b => cases e; exact .bl b
    | int i => cases e; exact .int i
    | str x => cases e; exact .str x
    | tup t ts =>
      unfold toR at e
      obtain ⟨ds, e1, rfl⟩ := Option.map_eq_some_iff.mp e
      exact .tup t (toRs k (toR_ok r k) _ _ _ e1 ts)
    | fl t ts =>
      unfold toR at e
      cases e
    | ref q =>
      unfold toR at e
      split at e
      · rename_i l
        obtain ⟨ds, e1, rfl⟩ := Option.map_eq_some_iff.mp e
        obtain ⟨vs, e2, e3⟩ := r.lst q l
        exact .lst e2 (toRs k (toR_ok r k) _ _ _ e1 e3)
      · rename_i l
        cases e
        obtain ⟨vs, e2, e3⟩ := r.dict q l
        cases e3
        exact .emp e2
      · cases e
end
section
variable {X : Cx}
def rReprD (K : PySem.W.Frag) : List V → Hp → VK → Prop := fun xs H Q => ∃ x d, xs = [x] ∧ Dq K H x d ∧ d.showable = true ∧ d.shown.length ≤ sizeLine ∧ d.depth ≤ 66 ∧ Q (.str d.shown) H
theorem call_reprD (hsm : ∃ o, X.base.get? sysModules = some o) (hg : X.A.guards = some []) (hu : X.A.units + 70 < cLine) : CallR X (.builtin "repr") (rReprD X.K) := by
  intro pins s σ H xs us Q I r ⟨x, d, ex, hd, h1, h2, h3, q⟩
  subst ex
  obtain ⟨u, rfl, rx⟩ := vals1 r
  obtain ⟨as, rd, nm⟩ := Dq.reads hsm I d x u hd rx
  cases hd with
  | non =>
    cases rx
    exact PySem.P.repr_of_none ⟨.str _, H, I.tok _, ⟨_, rfl⟩, q⟩
  | bl b =>
    cases rx
    refine PySem.P.repr_of_bool ⟨.str _, H, I.tok _, ⟨_, rfl⟩, ?_⟩
    simpa [PyData.shown] using q
  | int i =>
    obtain ⟨t, rfl⟩ := rx
    exact PySem.P.repr_of_int (by simpa [PyData.showable] using h1) ⟨.str _, H, I.tok _, ⟨_, rfl⟩, by simpa [PyData.shown] using q⟩
  | str z =>
    obtain ⟨t, rfl⟩ := rx
    exact PySem.P.repr_of_str ⟨.str _, H, I.tok _, ⟨_, rfl⟩, by simpa [PyData.shown] using q⟩ (by simpa [PyData.shown] using h2)
  | lst _ _ =>
    cases rx
    refine repr_of_reads' rd h1 (fun _ => nm) hg (by omega) (fun _ _ e => e) (fun h' u tk hk => ?_) h2
    exact ⟨.str _, H, I.kept (t' := tk) hk, ⟨_, rfl⟩, q⟩
  | tup _ _ =>
    cases rx
    refine repr_of_reads' rd h1 (fun _ => nm) hg (by omega) (fun _ _ e => e) (fun h' u tk hk => ?_) h2
    exact ⟨.str _, H, I.kept (t' := tk) hk, ⟨_, rfl⟩, q⟩
  | emp _ =>
    cases rx
    refine repr_of_reads' rd h1 (fun _ => nm) hg (by omega) (fun _ _ e => e) (fun h' u tk hk => ?_) h2
    exact ⟨.str _, H, I.kept (t' := tk) hk, ⟨_, rfl⟩, q⟩
def rLenDict : List V → Hp → VK → Prop := fun xs H Q => ∃ a kvs, xs = [.ref a] ∧ H a = some (.dK kvs) ∧ Q (.int kvs.length) H
theorem call_lenDict : CallR X (.builtin "len") rLenDict := by
  intro pins s σ H xs us Q I r ⟨a, kvs, ex, hd, q⟩
  subst ex
  obtain ⟨u, rfl, rx⟩ := vals1 r
  obtain rfl : u = Value.ref a := rx
  exact d_len I (.inl hd) fun t s' I' => ⟨.int _, H, I', ⟨t, rfl⟩, q⟩
theorem RVs.one {K : PySem.W.Frag} {φ : List Addr} {H : Hp} {x : PV} {vs : List V} (q : RVs K φ H [x] vs) : ∃ v, vs = [v] ∧ RV K φ H x v := by
  cases q with
  | cons q1 q2 => cases q2; exact ⟨_, rfl, q1⟩
theorem RVs.two {K : PySem.W.Frag} {φ : List Addr} {H : Hp} {x y : PV} {vs : List V} (q : RVs K φ H [x, y] vs) : ∃ v w, vs = [v, w] ∧ RV K φ H x v ∧ RV K φ H y w := by
  cases q with
  | cons q1 q2 =>
    obtain ⟨w, rfl, q3⟩ := q2.one
    exact ⟨_, _, rfl, q1, q3⟩
theorem len_ok : ∃ r, CallR X (.builtin "len") r ∧ ArOk X.K r (opBi .len) := by
  refine ⟨_, (call_len_str.or call_len_seq).or call_lenDict, fun φ H h xs vs z h' Q r rs q f => ?_⟩
  unfold opBi at q
  split at q
  all_goals try contradiction
  · split at q
    · cases q
      obtain ⟨v, rfl, rv⟩ := rs.one
      cases rv
      exact .inl (.inl ⟨_, rfl, by assumption, f.here r (.int _)⟩)
    · cases q
  · obtain ⟨v, rfl, rv⟩ := rs.one
    split at q
    · rename_i e
      cases q
      obtain ⟨a, ws, rfl, e1, e2⟩ := isLT_of r rv e
      refine .inl (.inr ⟨a, ws, rfl, e1, ?_⟩)
      rw [← e2.length]
      exact f.here r (.int _)
    · split at q
      · rename_i e
        cases q
        obtain ⟨a, ws, rfl, e1, e2⟩ := isDc_of r rv e
        refine .inr ⟨a, ws, rfl, e1, ?_⟩
        rw [← e2.length]
        exact f.here r (.int _)
      · cases q
theorem abs_ok : ∃ r, CallR X (.builtin "abs") r ∧ ArOk X.K r (opBi .abs) := by
  refine ⟨_, call_abs, fun φ H h xs vs z h' Q r rs q f => ?_⟩
  unfold opBi at q
  split at q
  all_goals try contradiction
  cases q
  obtain ⟨v, rfl, rv⟩ := rs.one
  cases rv
  exact ⟨_, rfl, f.here r (.int _)⟩
theorem int_ok : ∃ r, CallR X (.type "int") r ∧ ArOk X.K r (opBi .int) := by
  refine ⟨_, call_int1, fun φ H h xs vs z h' Q r rs q f => ?_⟩
  unfold opBi at q
  split at q
  all_goals try contradiction
  · cases q
    obtain ⟨v, rfl, rv⟩ := rs.one
    cases rv
    exact .inl ⟨_, rfl, f.here r (.int _)⟩
  · cases q
    obtain ⟨v, rfl, rv⟩ := rs.one
    cases rv
    exact .inr ⟨_, rfl, f.here r (.int _)⟩
theorem maxI_spec : ∀ (ns : List Int) (n : Int), (maxI n ns = n ∨ maxI n ns ∈ ns) ∧ n ≤ maxI n ns ∧ ∀ y ∈ ns, y ≤ maxI n ns
  | [], n => ⟨.inl rfl, Int.le_refl _, fun y h => by cases h⟩
  | x :: xs, n => by
    obtain ⟨h1, h2, h3⟩ := maxI_spec xs (if n < x then x else n)
    unfold maxI
    by_cases c : n < x
    · rw [if_pos c] at h1 h2 h3 ⊢
      refine ⟨?_, by omega, fun y hy => ?_⟩
      · rcases h1 with e | e
        · rw [e]; exact .inr List.mem_cons_self
        · exact .inr (List.mem_cons_of_mem _ e)
      · rcases List.mem_cons.mp hy with e | e
        · subst e; omega
        · exact h3 y e
    · rw [if_neg c] at h1 h2 h3 ⊢
      refine ⟨?_, by omega, fun y hy => ?_⟩
      · rcases h1 with e | e
        · exact .inl e
        · exact .inr (List.mem_cons_of_mem _ e)
      · rcases List.mem_cons.mp hy with e | e
        · subst e; omega
        · exact h3 y e
theorem minI_spec : ∀ (ns : List Int) (n : Int), (minI n ns = n ∨ minI n ns ∈ ns) ∧ minI n ns ≤ n ∧ ∀ y ∈ ns, minI n ns ≤ y
  | [], n => ⟨.inl rfl, Int.le_refl _, fun y h => by cases h⟩
  | x :: xs, n => by
    obtain ⟨h1, h2, h3⟩ := minI_spec xs (if x < n then x else n)
    unfold minI
    by_cases c : x < n
    · rw [if_pos c] at h1 h2 h3 ⊢
      refine ⟨?_, by omega, fun y hy => ?_⟩
      · rcases h1 with e | e
        · rw [e]; exact .inr List.mem_cons_self
        · exact .inr (List.mem_cons_of_mem _ e)
      · rcases List.mem_cons.mp hy with e | e
        · subst e; omega
        · exact h3 y e
    · rw [if_neg c] at h1 h2 h3 ⊢
      refine ⟨?_, by omega, fun y hy => ?_⟩
      · rcases h1 with e | e
        · exact .inl e
        · exact .inr (List.mem_cons_of_mem _ e)
      · rcases List.mem_cons.mp hy with e | e
        · subst e; omega
        · exact h3 y e
theorem max_ok (hc : X.calm = true) (hu : X.A.units + 64 < cLine) : ∃ r, CallR X (.builtin "max") r ∧ ArOk X.K r (opBi .max) := by
  refine ⟨_, (call_max2 hc).or ((cr_max hc).or (cr_maxT hc hu)), fun φ H h xs vs z h' Q r rs q f => ?_⟩
  unfold opBi at q
  split at q
  all_goals try contradiction
  · cases q
    obtain ⟨v, w, rfl, rv, rw'⟩ := rs.two
    cases rv; cases rw'
    exact .inl ⟨_, _, rfl, f.here r (.int _)⟩
  · obtain ⟨v, rfl, rv⟩ := rs.one
    split at q
    · rename_i e
      split at q
      · rename_i n ns e3
        cases q
        obtain ⟨a, ws, rfl, e0, e2⟩ := isLT_of r rv e
        have e4 := intsOf_eq e3
        subst e4
        have e5 := e2.ints
        subst e5
        have fin : ∀ m, m ∈ n :: ns → (∀ a ∈ n :: ns, a ≤ m) → m = maxI n ns := fun m hm hall => by
          obtain ⟨s1, s2, s3⟩ := maxI_spec ns n
          refine Int.le_antisymm ?_ ?_
          · rcases List.mem_cons.mp hm with e | e
            · subst e; exact s2
            · exact s3 _ e
          · rcases s1 with e | e
            · rw [e]; exact hall _ List.mem_cons_self
            · exact hall _ (List.mem_cons_of_mem _ e)
        rcases e0 with e1 | e1
        · refine .inr (.inl ⟨a, _, rfl, e1, by simp, fun m hm hall => ?_⟩)
          have := fin m hm hall
          subst this
          exact f.here r (.int _)
        · refine .inr (.inr ⟨a, n, ns, rfl, e1, fun m hm hall => ?_⟩)
          have := fin m hm hall
          subst this
          exact f.here r (.int _)
      · cases q
    · cases q
theorem min_ok (hc : X.calm = true) (hu : X.A.units + 64 < cLine) : ∃ r, CallR X (.builtin "min") r ∧ ArOk X.K r (opBi .min) := by
  refine ⟨_, (call_min2 hc).or ((cr_min hc).or (cr_minT hc hu)), fun φ H h xs vs z h' Q r rs q f => ?_⟩
  unfold opBi at q
  split at q
  all_goals try contradiction
  · cases q
    obtain ⟨v, w, rfl, rv, rw'⟩ := rs.two
    cases rv; cases rw'
    exact .inl ⟨_, _, rfl, f.here r (.int _)⟩
  · obtain ⟨v, rfl, rv⟩ := rs.one
    split at q
    · rename_i e
      split at q
      · rename_i n ns e3
        cases q
        obtain ⟨a, ws, rfl, e0, e2⟩ := isLT_of r rv e
        have e4 := intsOf_eq e3
        subst e4
        have e5 := e2.ints
        subst e5
        have fin : ∀ m, m ∈ n :: ns → (∀ a ∈ n :: ns, m ≤ a) → m = minI n ns := fun m hm hall => by
          obtain ⟨s1, s2, s3⟩ := minI_spec ns n
          refine Int.le_antisymm ?_ ?_
          · rcases s1 with e | e
            · rw [e]; exact hall _ List.mem_cons_self
            · exact hall _ (List.mem_cons_of_mem _ e)
          · rcases List.mem_cons.mp hm with e | e
            · subst e; exact s2
            · exact s3 _ e
        rcases e0 with e1 | e1
        · refine .inr (.inl ⟨a, _, rfl, e1, by simp, fun m hm hall => ?_⟩)
          have := fin m hm hall
          subst this
          exact f.here r (.int _)
        · refine .inr (.inr ⟨a, n, ns, rfl, e1, fun m hm hall => ?_⟩)
          have := fin m hm hall
          subst this
          exact f.here r (.int _)
      · cases q
    · cases q
theorem tuple_ok : ∃ r, CallR X (.type "tuple") r ∧ ArOk X.K r (opBi .tuple) := by
  refine ⟨_, call_tuple_of, fun φ H h xs vs z h' Q r rs q f => ?_⟩
  unfold opBi at q
  split at q
  all_goals try contradiction
  · cases q
    obtain ⟨v, rfl, rv⟩ := rs.one
    cases rv with
    | tup t ts => exact ⟨_, _, rfl, .inr ⟨t, f.here r (.tup t ts)⟩⟩
  · obtain ⟨v, rfl, rv⟩ := rs.one
    split at q
    · rename_i e
      cases q
      obtain ⟨a, ws, rfl, e1, e2⟩ := isL_of r rv e
      exact ⟨_, _, rfl, .inl ⟨e1, fun p hp => f.tup r e2 hp⟩⟩
    · cases q
theorem RKs.keys {K : PySem.W.Frag} {φ : List Addr} {H : Hp} {ps : List (PV × PV)} {vs : List (Key × V)} (q : RKs K φ H ps vs) : RVs K φ H (ps.map (·.1)) (vs.map fun kv => kV kv.1) := by
  induction q with
  | nil => exact .nil
  | @cons p k x v ps vs e rx t ih =>
    refine .cons ?_ ih
    cases p <;> simp [keyOf] at e <;> subst e <;> constructor
theorem list_ok (hc : X.calm = true) : ∃ r, CallR X (.type "list") r ∧ ArOk X.K r (opBi .list) := by
  refine ⟨_, call_list_of.or (call_list_dK hc), fun φ H h xs vs z h' Q r rs q f => ?_⟩
  unfold opBi at q
  split at q
  all_goals try contradiction
  obtain ⟨v, rfl, rv⟩ := rs.one
  split at q
  · rename_i e
    cases q
    obtain ⟨a, ws, rfl, e1, e2⟩ := isLT_of r rv e
    exact .inl ⟨_, _, rfl, e1, fun p hp => f.newLst r e2 hp⟩
  · split at q
    · rename_i e
      cases q
      obtain ⟨a, ws, rfl, e1, e2⟩ := isDc_of r rv e
      exact .inr ⟨_, _, rfl, e1, fun p hp => f.newLst r e2.keys hp⟩
    · cases q
theorem repr_ok (hsm : ∃ o, X.base.get? sysModules = some o) (hg : X.A.guards = some []) (hu : X.A.units + 70 < cLine) : ∃ r, CallR X (.builtin "repr") r ∧ ArOk X.K r (opBi .repr) := by
  refine ⟨_, (call_repr hg hu).or (call_reprD hsm hg hu), fun φ H h xs vs z h' Q r rs q f => ?_⟩
  unfold opBi at q
  split at q
  all_goals try contradiction
  obtain ⟨v, rfl, rv⟩ := rs.one
  split at q
  · rename_i d e
    split at q
    · rename_i c
      cases q
      exact .inl ⟨v, d, rfl, toD_ok r _ _ _ _ e rv, toD_noDict _ _ _ _ e, c.1, c.2.1, c.2.2, f.here r (.str _)⟩
    · cases q
  · split at q
    · rename_i d e
      split at q
      · rename_i c
        cases q
        exact .inr ⟨v, d, rfl, toR_ok r _ _ _ _ e rv, c.1, c.2.1, c.2.2, f.here r (.str _)⟩
      · cases q
    · cases q
theorem encDs {K : PySem.W.Frag} {φ : List Addr} {H : Hp} {h : EH} : ∀ {xs : List PV} {ds : List PyData}, mapO (toD h DF) xs = some ds → xs.map (encD h) = ds
  | [], ds, e => by cases e; rfl
  | x :: xs, ds, e => by
    unfold mapO at e
    split at e
    · cases e
    · rename_i y hy
      split at e
      · cases e
      · rename_i ys hys
        cases e
        rw [List.map_cons, encDs (K := K) (φ := φ) (H := H) hys, encD, hy]
        rfl
theorem sorted_ok (hu : X.A.units + 70 < cLine) : ∃ r, CallR X (.builtin "sorted") r ∧ ArOk X.K r (opBi .sorted) := by
  refine ⟨_, cr_sortedI.or cr_sortedPV, fun φ H h xs vs z h' Q r rs q f => ?_⟩
  unfold opBi at q
  split at q
  all_goals try contradiction
  obtain ⟨v, rfl, rv⟩ := rs.one
  split at q
  · rename_i e
    split at q
    · rename_i ns e3
      cases q
      obtain ⟨a, ws, rfl, e1, e2⟩ := isL_of r rv e
      have e4 := intsOf_eq e3
      subst e4
      have e5 := e2.ints
      subst e5
      refine .inl ⟨a, ns, rfl, e1, fun ns' p hp hs hn => ?_⟩
      have e6 : ns' = ns.mergeSort fun a b => decide (a ≤ b) := by
        refine List.Perm.eq_of_pairwise (le := fun a b => a ≤ b) (fun a b _ _ h1 h2 => Int.le_antisymm h1 h2) hs ?_ (hp.trans (List.mergeSort_perm _ _).symm)
        have := List.pairwise_mergeSort (le := fun a b : Int => decide (a ≤ b)) (fun a b c h1 h2 => by simp only [decide_eq_true_eq] at *; omega) (fun a b => by simp only [Bool.or_eq_true, decide_eq_true_eq]; omega) ns
        exact this.imp fun h => of_decide_eq_true h
      subst e6
      exact f.newLst r (RVs.of_ints _) hn
    · split at q
      · rename_i ds hds
        split at q
        · rename_i hz
          unfold new at q
          cases q
          obtain ⟨a, ws, rfl, e1, e2⟩ := isL_of r rv e
          have hE := encDs (K := X.K) (φ := φ) (H := H) hds
          simp only [sortD, Bool.and_eq_true, List.all_eq_true, decide_eq_true_eq] at hz
          obtain ⟨⟨z1, z2⟩, z3⟩ := hz
          refine .inr ⟨a, ws, φ, _, encD _, rfl, e1, e2, by rw [hE]; exact toDs _ (toD_ok r _) _ _ _ hds e2, by rw [hE]; exact fun d hd d' hd' => z1 d hd d' hd', ?_, fun p hp => ?_, fun p ys q hp => f.newLst r q hp⟩
          · rw [hE]
            refine .inl fun d hd => ?_
            have := z2 d hd
            unfold isTupD at this
            split at this
            · exact ⟨_, _, rfl⟩
            · cases this
          · have := z3 (encD _ p) (by rw [← hE]; exact List.mem_map.mpr ⟨p, hp, rfl⟩)
            omega
        · cases q
      · cases q
  · cases q
theorem sum_ok (hc : X.calm = true) : ∃ r, CallR X (.builtin "sum") r ∧ ArOk X.K r (opBi .sum) := by
  refine ⟨_, cr_sum hc, fun φ H h xs vs z h' Q r rs q f => ?_⟩
  unfold opBi at q
  split at q
  all_goals try contradiction
  obtain ⟨v, rfl, rv⟩ := rs.one
  split at q
  · rename_i e
    split at q
    · rename_i ns e3
      cases q
      obtain ⟨a, ws, rfl, e1, e2⟩ := isL_of r rv e
      have e4 := intsOf_eq e3
      subst e4
      have e5 := e2.ints
      subst e5
      exact ⟨a, ns, rfl, e1, f.here r (.int _)⟩
    · cases q
  · cases q
theorem any_ok (hc : X.calm = true) : ∃ r, CallR X (.builtin "any") r ∧ ArOk X.K r (opBi .any) := by
  refine ⟨_, cr_any hc, fun φ H h xs vs z h' Q r rs q f => ?_⟩
  unfold opBi at q
  split at q
  all_goals try contradiction
  obtain ⟨v, rfl, rv⟩ := rs.one
  split at q
  · rename_i e
    split at q
    · rename_i ns e3
      cases q
      obtain ⟨a, ws, rfl, e1, e2⟩ := isL_of r rv e
      have e4 := blsOf_eq e3
      subst e4
      have e5 := e2.bls
      subst e5
      exact ⟨a, ns, rfl, e1, f.here r (.bl _)⟩
    · cases q
  · cases q
theorem all_ok (hc : X.calm = true) : ∃ r, CallR X (.builtin "all") r ∧ ArOk X.K r (opBi .all) := by
  refine ⟨_, cr_all hc, fun φ H h xs vs z h' Q r rs q f => ?_⟩
  unfold opBi at q
  split at q
  all_goals try contradiction
  obtain ⟨v, rfl, rv⟩ := rs.one
  split at q
  · rename_i e
    split at q
    · rename_i ns e3
      cases q
      obtain ⟨a, ws, rfl, e1, e2⟩ := isL_of r rv e
      have e4 := blsOf_eq e3
      subst e4
      have e5 := e2.bls
      subst e5
      exact ⟨a, ns, rfl, e1, f.here r (.bl _)⟩
    · cases q
  · cases q
theorem str_ok : ∃ r, CallR X (.type "str") r ∧ ArOk X.K r (opBi .str) := by
  refine ⟨_, call_str_int, fun φ H h xs vs z h' Q r rs q f => ?_⟩
  unfold opBi at q
  split at q
  all_goals try contradiction
  split at q
  · rename_i c
    cases q
    obtain ⟨v, rfl, rv⟩ := rs.one
    cases rv
    exact ⟨_, rfl, c, f.here r (.str _)⟩
  · cases q
theorem pairs_ok {φ : List Addr} {H : Hp} : ∀ {ys : List PV} {ws : List V} {kvs : List (PV × PV)}, RVs X.K φ H ys ws → pairsOf ys = some kvs →
    ∃ (ps : List Addr) (ks : List (Key × V)), ws = ps.map V.ref ∧ Paired (fun p kv => SqT X.K H p [kV kv.1, kv.2]) ps ks ∧ RKs X.K φ H kvs ks
  | [], _, kvs, q, e => by
    cases q
    cases e
    exact ⟨[], [], rfl, .nil, .nil⟩
  | y :: ys, _, kvs, q, e => by
    cases q with
    | cons q1 q2 =>
      unfold pairsOf at e
      split at e
      · rename_i heq
        cases heq
      · rename_i k v r heq
        split at e
        · rename_i kk q0 hk hq
          cases e
          cases heq
          cases q1 with
          | tup t ts =>
            cases ts with
            | cons t1 ts =>
              cases ts with
              | cons t2 ts =>
                cases ts
                obtain ⟨ps, ks, rfl, pp, rr⟩ := pairs_ok q2 hq
                have ek : ∀ {v : V}, RV X.K φ H k v → v = kV kk := fun {v} z => by
                  cases k <;> simp only [keyOf] at hk <;> first | (cases hk; done) | skip
                  · cases hk; cases z; rfl
                  · cases hk; cases z; rfl
                have e1 := ek t1
                subst e1
                exact ⟨_ :: ps, (kk, _) :: ks, rfl, .cons t pp, .cons hk t2 rr⟩
        · cases e
      · cases e
theorem dct_ok (hc : X.calm = true) : ∃ r, CallR X (.type "dict") r ∧ ArOk X.K r (opBi .dct) := by
  refine ⟨_, call_dictP hc, fun φ H h xs vs z h' Q r rs q f => ?_⟩
  unfold opBi at q
  split at q
  all_goals try contradiction
  obtain ⟨v, rfl, rv⟩ := rs.one
  split at q
  · rename_i e
    split at q
    · rename_i kvs e3
      cases q
      obtain ⟨a, ws, rfl, e1, e2⟩ := isL_of r rv e
      obtain ⟨ps, ks, rfl, pp, rr⟩ := pairs_ok e2 e3
      exact ⟨a, ps, ks, rfl, e1, pp, fun p hp => f.newDict r (dmerge_ok rr .nil) hp⟩
    · cases q
  · cases q
theorem setI_ok (hc : X.calm = true) : ∃ r, CallR X (.type "set") r ∧ ArOk X.K r (opBi .set) := by
  refine ⟨_, cr_setI hc, fun φ H h xs vs z h' Q r rs q f => ?_⟩
  unfold opBi at q
  split at q
  all_goals try contradiction
  obtain ⟨v, rfl, rv⟩ := rs.one
  split at q
  · rename_i e
    split at q
    · rename_i ns e3
      split at q
      · rename_i hz
        unfold new at q
        cases q
        obtain ⟨a, ws, rfl, e1, e2⟩ := isLT_of r rv e
        have e4 := intsOf_eq e3
        subst e4
        have e5 := e2.ints
        subst e5
        exact ⟨a, ns, rfl, e1, hz, fun p c hp => f (φ ++ [p]) _ _ (Ext.new hp) (r.new hp ⟨c, upd_same⟩) (.ref (by rw [← r.len]; simp))⟩
      · cases q
    · cases q
  · cases q
theorem bi_ok (hsm : ∃ o, X.base.get? sysModules = some o) (hc : X.calm = true) (hg : X.A.guards = some []) (hu : X.A.units + 70 < cLine) (b : Bi) : ∃ r, CallR X (biF b) r ∧ ArOk X.K r (opBi b) := by
  cases b with
  | len => exact len_ok
  | abs => exact abs_ok
  | int => exact int_ok
  | max => exact max_ok hc (Nat.lt_of_le_of_lt (Nat.add_le_add_left (by decide) _) hu)
  | min => exact min_ok hc (Nat.lt_of_le_of_lt (Nat.add_le_add_left (by decide) _) hu)
  | tuple => exact tuple_ok
  | list => exact list_ok hc
  | repr => exact repr_ok hsm hg hu
  | sorted => exact sorted_ok hu
  | sum => exact sum_ok hc
  | any => exact any_ok hc
  | all => exact all_ok hc
  | str => exact str_ok
  | dct => exact dct_ok hc
  | set => exact setI_ok hc
end
end
end EV

set_option Elab.async false
set_option linter.all false
set_option maxRecDepth 100000
set_option maxHeartbeats 4000000
/-! EV6: methods of lists and dicts. -/
namespace EV
open PySem PySem.Spec L2
def meN : Me → Str
  | .append => "append" | .pop => "pop" | .popAt => "pop" | .extend => "extend" | .index => "index" | .get1 => "get" | .get2 => "get" | .dpop1 => "pop" | .dpop2 => "pop" | .dsetd => "setdefault"
def meT : Me → String
  | .append | .pop | .popAt | .extend | .index => "list"
  | _ => "dict"
def meI : Me → String
  | .append => "list.append" | .pop => "list.pop" | .popAt => "list.pop" | .extend => "list.extend" | .index => "list.index" | .get1 => "dict.get" | .get2 => "dict.get" | .dpop1 => "dict.pop" | .dpop2 => "dict.pop" | .dsetd => "dict.setdefault"
def MeOk (K : PySem.W.Frag) (r : V → List V → Hp → VK → Prop) (f : PV → List PV → EH → Rt) : Prop :=
  ∀ (φ : List Addr) (H : Hp) (h : EH) (x : PV) (x' : V) (xs : List PV) (vs : List V) (z : PV) (h' : EH) (Q : VK), Rep K φ H h → RV K φ H x x' → RVs K φ H xs vs → f x xs h = some (z, h') → Fi K φ H h' z Q → r x' vs H Q
section
variable {X : Cx}
theorem me_ty {K : PySem.W.Frag} {φ : List Addr} {H : Hp} {h : EH} {m : Me} {x : PV} {x' : V} (r : Rep K φ H h) (rx : RV K φ H x x') (e : meK h x m = true) : tyV K (meT m) x' H := by
  have l : (isL h x).isSome = true → tyV K "list" x' H := fun c => by
    obtain ⟨xs, c⟩ := Option.isSome_iff_exists.mp c
    obtain ⟨a, vs, rfl, e1, e2⟩ := isL_of r rx c
    exact .inl ⟨rfl, vs, e1⟩
  have d : (isDc h x).isSome = true → tyV K "dict" x' H := fun c => by
    obtain ⟨xs, c⟩ := Option.isSome_iff_exists.mp c
    obtain ⟨a, vs, rfl, e1, e2⟩ := isDc_of r rx c
    exact .inr (.inr (.inl ⟨rfl, .inl ⟨vs, e1⟩⟩))
  cases m <;> first | exact l e | exact d e
def rGet1 : V → List V → Hp → VK → Prop := fun x xs H Q => ∃ a y o, x = .ref a ∧ xs = [y] ∧ DGet H a y o ∧ Q (o.getD .non) H
def rGet2 : V → List V → Hp → VK → Prop := fun x xs H Q => ∃ a y z o, x = .ref a ∧ xs = [y, z] ∧ DGet H a y o ∧ Q (o.getD z) H
def rDPop1 : V → List V → Hp → VK → Prop := fun x xs H Q => ∃ a k kvs v, x = .ref a ∧ xs = [kV k] ∧ H a = some (.dK kvs) ∧ valV kvs k = some v ∧ Q v (upd H a (.dK (dropK kvs k)))
def rDPop2 : V → List V → Hp → VK → Prop := fun x xs H Q => ∃ a k kvs z, x = .ref a ∧ xs = [kV k, z] ∧ H a = some (.dK kvs) ∧ (∀ v, valV kvs k = some v → Q v (upd H a (.dK (dropK kvs k)))) ∧ (valV kvs k = none → Q z H)
theorem mt_get1 (hu : X.A.units + 1 < cLine) : MtR X "dict.get" rGet1 := by
  intro pins s σ H x xs v us Q I rx rs ⟨a, y, o, ex, es, g, q⟩
  subst ex es
  obtain rfl : v = Value.ref a := rx
  obtain ⟨u, rfl, ru⟩ := vals1 rs
  exact d_get1 hu I g ru fun w' s' I' r' => ⟨_, H, I', r', q⟩
theorem mt_get2 (hu : X.A.units + 1 < cLine) : MtR X "dict.get" rGet2 := by
  intro pins s σ H x xs v us Q I rx rs ⟨a, y, z, o, ex, es, g, q⟩
  subst ex es
  obtain rfl : v = Value.ref a := rx
  obtain ⟨u, w, rfl, ru, rw'⟩ := vals2 rs
  exact d_get2 hu I g ru rw' fun w' s' I' r' => ⟨_, H, I', r', q⟩
theorem mt_dpop1 : MtR X "dict.pop" rDPop1 := by
  intro pins s σ H x xs v us Q I rx rs ⟨a, k, kvs, z, ex, es, e, l, q⟩
  subst ex es
  obtain rfl : v = Value.ref a := rx
  obtain ⟨u, rfl, ru⟩ := vals1 rs
  exact d_pop I e ru l (.inl rfl) fun w' s' I' r' => ⟨_, _, I', r', q⟩
theorem mt_dpop2 : MtR X "dict.pop" rDPop2 := by
  intro pins s σ H x xs v us Q I rx rs ⟨a, k, kvs, z, ex, es, e, q1, q2⟩
  subst ex es
  obtain rfl : v = Value.ref a := rx
  obtain ⟨u, w, rfl, ru, rw'⟩ := vals2 rs
  cases l : valV kvs k with
  | some y => exact d_pop I e ru l (.inr ⟨_, rfl⟩) fun w' s' I' r' => ⟨_, _, I', r', q1 _ l⟩
  | none => exact d_popD I e ru l fun s' I' => ⟨_, _, I', rw', q2 l⟩
def rDSetd : V → List V → Hp → VK → Prop := fun x xs H Q => ∃ a k kvs z, x = .ref a ∧ xs = [kV k, z] ∧ H a = some (.dK kvs) ∧ kvs.length < sizeLine ∧ (∀ v, valV kvs k = some v → Q v H) ∧ (valV kvs k = none → Q z (upd H a (.dK (putK kvs k z))))
theorem mt_dsetd : MtR X "dict.setdefault" rDSetd := by
  intro pins s σ H x xs v us Q I rx rs ⟨a, k, kvs, z, ex, es, e, hl, q1, q2⟩
  subst ex es
  obtain rfl : v = Value.ref a := rx
  obtain ⟨u, w, rfl, ru, rw'⟩ := vals2 rs
  exact d_setd I e ru rw' hl (fun v hv w' s' I' r' => ⟨v, _, I', r', q1 v hv⟩) fun hn w' s' I' r' => ⟨z, _, I', r', q2 hn⟩
theorem idxD_spec {d : PyData} : ∀ {ds : List PyData} {k j : Nat}, idxD d ds k = some j → k ≤ j ∧ (∃ z, ds[j - k]? = some z ∧ PyData.eqv z d = true) ∧ ∀ m z, m < j - k → ds[m]? = some z → PyData.eqv z d = false
  | [], _, _, e => by cases e
  | z :: zs, k, j, e => by
    unfold idxD at e
    split at e
    · rename_i c
      cases e
      exact ⟨Nat.le_refl _, ⟨z, by simp, c⟩, fun m y hm => by omega⟩
    · rename_i c
      obtain ⟨h1, ⟨y, h2, h3⟩, h4⟩ := idxD_spec e
      have ej : j - k = (j - (k + 1)) + 1 := by omega
      refine ⟨by omega, ⟨y, by rw [ej]; simpa using h2, h3⟩, fun m w hm hw => ?_⟩
      cases m with
      | zero => simp at hw; subst hw; simpa using c
      | succ m => exact h4 m w (by omega) (by simpa using hw)
theorem RVs.dropLast {K : PySem.W.Frag} {φ : List Addr} {H : Hp} {ps : List PV} {vs : List V} (q : RVs K φ H ps vs) : RVs K φ H ps.dropLast vs.dropLast := by
  rw [List.dropLast_eq_take, List.dropLast_eq_take, q.length]
  exact q.take _
theorem RVs.erase {K : PySem.W.Frag} {φ : List Addr} {H : Hp} {ps : List PV} {vs : List V} (q : RVs K φ H ps vs) (i : Nat) : RVs K φ H (ps.eraseIdx i) (vs.eraseIdx i) := by
  rw [List.eraseIdx_eq_take_drop_succ, List.eraseIdx_eq_take_drop_succ]
  exact (q.take _).append (q.drop _)
theorem me_ok (hu : X.A.units + 65 < cLine) (m : Me) : ∃ r, MtR X (meI m) r ∧ MeOk X.K r (opMe m) := by
  cases m with
  | append =>
    refine ⟨_, mt_append, fun φ H h x x' xs vs z h' Q r rx rs q f => ?_⟩
    unfold opMe at q
    split at q
    all_goals try contradiction
    split at q
    · rename_i l
      split at q
      · cases q
        cases rx with
        | ref e =>
          obtain ⟨ws, a1, a2⟩ := r.lst e l
          obtain ⟨v, rfl, rv⟩ := rs.one
          exact ⟨_, _, _, rfl, rfl, a1, by rw [← a2.length]; assumption, f φ _ _ (Ext.set (mem_at e) a1) (r.setLst e a1 (a2.append (.cons rv .nil))) .non⟩
      · cases q
    · cases q
  | extend =>
    refine ⟨_, mt_extend, fun φ H h x x' xs vs z h' Q r rx rs q f => ?_⟩
    unfold opMe at q
    split at q
    all_goals try contradiction
    split at q
    · rename_i l1 l2
      split at q
      · cases q
        cases rx with
        | ref e =>
          obtain ⟨ws, a1, a2⟩ := r.lst e l1
          obtain ⟨v, rfl, rv⟩ := rs.one
          cases rv with
          | ref e' =>
            obtain ⟨ws', b1, b2⟩ := r.lst e' l2
            exact ⟨_, _, _, _, rfl, rfl, a1, b1, by rw [← a2.length, ← b2.length]; assumption, f φ _ _ (Ext.set (mem_at e) a1) (r.setLst e a1 (a2.append b2)) .non⟩
      · cases q
    · cases q
  | pop =>
    refine ⟨_, mt_pop, fun φ H h x x' xs vs z h' Q r rx rs q f => ?_⟩
    unfold opMe at q
    split at q
    all_goals try contradiction
    split at q
    · rename_i l
      split at q
      · rename_i y hy
        cases q
        cases rx with
        | ref e =>
          obtain ⟨ws, a1, a2⟩ := r.lst e l
          cases rs
          obtain ⟨v, e1, e2⟩ := a2.get hy
          rw [a2.length] at e1
          exact ⟨_, _, _, rfl, rfl, a1, e1, f φ _ _ (Ext.set (mem_at e) a1) (r.setLst e a1 a2.dropLast) (e2.mono r (Ext.set (mem_at e) a1))⟩
      · cases q
    · cases q
  | popAt =>
    refine ⟨_, mt_popAt, fun φ H h x x' xs vs z h' Q r rx rs q f => ?_⟩
    unfold opMe at q
    split at q
    all_goals try contradiction
    split at q
    · rename_i l
      split at q
      · rename_i c
        split at q
        · rename_i y hy
          cases q
          cases rx with
          | ref e =>
            obtain ⟨ws, a1, a2⟩ := r.lst e l
            obtain ⟨v, rfl, rv⟩ := rs.one
            cases rv
            obtain ⟨w, e1, e2⟩ := a2.get hy
            have hb := a2.length
            refine ⟨_, _, _, _, _, rfl, rfl, a1, by omega, by omega, ?_, e1, f φ _ _ (Ext.set (mem_at e) a1) (r.setLst e a1 (a2.erase _)) (e2.mono r (Ext.set (mem_at e) a1))⟩
            exact seqIndex_of (by omega) (by omega)
        · cases q
      · cases q
    · cases q
  | index =>
    refine ⟨_, mt_indexD hu, fun φ H h x x' xs vs z h' Q r rx rs q f => ?_⟩
    unfold opMe at q
    split at q
    all_goals try contradiction
    split at q
    · rename_i hl
      split at q
      · rename_i d ds hd hds
        split at q
        · rename_i c
          obtain ⟨k, hk, e⟩ := Option.map_eq_some_iff.mp q
          cases e
          obtain ⟨a, ws, rfl, e1, e2⟩ := isL_of r rx hl
          obtain ⟨v, rfl, rv⟩ := rs.one
          obtain ⟨_, ⟨y, h2, h3⟩, h4⟩ := idxD_spec hk
          exact ⟨a, v, d, ds, k, y, rfl, rfl, .lst e1 (toDs _ (toD_ok r _) _ _ _ hds e2), toD_ok r _ _ _ _ hd rv, c.1, c.2, by simpa using h2, h3, fun m w hm hw => h4 m w (by omega) hw, f.here r (.int _)⟩
        · cases q
      · cases q
    · cases q
  | get1 =>
    refine ⟨_, mt_get1 (by omega), fun φ H h x x' xs vs z h' Q r rx rs q f => ?_⟩
    unfold opMe at q
    split at q
    all_goals try contradiction
    split at q
    · rename_i kvs k hd hk
      cases q
      obtain ⟨a, ws, rfl, e1, e2⟩ := isDc_of r rx hd
      obtain ⟨v, rfl, rv⟩ := rs.one
      have e3 := keyOf_V rv hk
      subst e3
      obtain ⟨g1, g2⟩ := dget_ok e2 hk
      refine ⟨a, _, _, rfl, rfl, DGet.k e1, f.here r ?_⟩
      cases c : dget kvs _ with
      | none => rw [g2 c]; exact .non
      | some y => obtain ⟨w, e4, e5⟩ := g1 _ c; rw [e4]; exact e5
    · cases q
  | get2 =>
    refine ⟨_, mt_get2 (by omega), fun φ H h x x' xs vs z h' Q r rx rs q f => ?_⟩
    unfold opMe at q
    split at q
    all_goals try contradiction
    split at q
    · rename_i kvs k hd hk
      cases q
      obtain ⟨a, ws, rfl, e1, e2⟩ := isDc_of r rx hd
      obtain ⟨v, w, rfl, rv, rw'⟩ := rs.two
      have e3 := keyOf_V rv hk
      subst e3
      obtain ⟨g1, g2⟩ := dget_ok e2 hk
      refine ⟨a, _, _, _, rfl, rfl, DGet.k e1, f.here r ?_⟩
      cases c : dget kvs _ with
      | none => rw [g2 c]; exact rw'
      | some y => obtain ⟨w, e4, e5⟩ := g1 _ c; rw [e4]; exact e5
    · cases q
  | dpop1 =>
    refine ⟨_, mt_dpop1, fun φ H h x x' xs vs z h' Q r rx rs q f => ?_⟩
    unfold opMe at q
    split at q
    all_goals try contradiction
    split at q
    · rename_i kvs k hd hk
      split at q
      · rename_i y hy
        cases q
        cases rx with
        | ref e =>
          obtain ⟨ws, a1, a2⟩ := r.dict e hd
          obtain ⟨v, rfl, rv⟩ := rs.one
          have e3 := keyOf_V rv hk
          subst e3
          obtain ⟨w, e4, e5⟩ := (dget_ok a2 hk).1 _ hy
          exact ⟨_, k, _, w, rfl, rfl, a1, e4, f φ _ _ (Ext.set (mem_at e) a1) (r.setDict e a1 (ddel_ok a2 hk)) (e5.mono r (Ext.set (mem_at e) a1))⟩
      · cases q
    · cases q
  | dpop2 =>
    refine ⟨_, mt_dpop2, fun φ H h x x' xs vs z h' Q r rx rs q f => ?_⟩
    unfold opMe at q
    split at q
    all_goals try contradiction
    split at q
    · rename_i kvs k hd hk
      cases rx with
      | ref e =>
        obtain ⟨ws, a1, a2⟩ := r.dict e hd
        obtain ⟨v, w, rfl, rv, rw'⟩ := rs.two
        have e3 := keyOf_V rv hk
        subst e3
        refine ⟨_, k, _, w, rfl, rfl, a1, fun y hy => ?_, fun hn => ?_⟩
        · split at q
          · rename_i p hp
            cases q
            obtain ⟨w2, e4, e5⟩ := (dget_ok a2 hk).1 _ hp
            rw [hy] at e4
            cases e4
            exact f φ _ _ (Ext.set (mem_at e) a1) (r.setDict e a1 (ddel_ok a2 hk)) (e5.mono r (Ext.set (mem_at e) a1))
          · rename_i hp
            rw [(dget_ok a2 hk).2 hp] at hy
            cases hy
        · split at q
          · rename_i p hp
            obtain ⟨w2, e4, e5⟩ := (dget_ok a2 hk).1 _ hp
            rw [hn] at e4
            cases e4
          · cases q
            exact f.here r rw'
    · cases q
  | dsetd =>
    refine ⟨_, mt_dsetd, fun φ H h x x' xs vs z h' Q r rx rs q f => ?_⟩
    unfold opMe at q
    split at q
    all_goals try contradiction
    split at q
    · rename_i kvs k hd hk
      cases rx with
      | ref e =>
        obtain ⟨ws, a1, a2⟩ := r.dict e hd
        obtain ⟨v, w, rfl, rv, rw'⟩ := rs.two
        have e3 := keyOf_V rv hk
        subst e3
        split at q
        · rename_i hz
          refine ⟨_, k, _, w, rfl, rfl, a1, by rw [← a2.length]; exact hz, fun y hy => ?_, fun hn => ?_⟩
          · split at q
            · rename_i p hp
              cases q
              obtain ⟨w2, e4, e5⟩ := (dget_ok a2 hk).1 _ hp
              rw [hy] at e4
              cases e4
              exact f.here r e5
            · rename_i hp
              rw [(dget_ok a2 hk).2 hp] at hy
              cases hy
          · split at q
            · rename_i p hp
              obtain ⟨w2, e4, e5⟩ := (dget_ok a2 hk).1 _ hp
              rw [hn] at e4
              cases e4
            · cases q
              exact f φ _ _ (Ext.set (mem_at e) a1) (r.setDict e a1 (dput_ok a2 hk rw')) (rw'.mono r (Ext.set (mem_at e) a1))
        · cases q
    · cases q
end
end EV

set_option Elab.async false
set_option linter.all false
set_option maxRecDepth 100000
set_option maxHeartbeats 4000000
/-! EVZ9: a tuple turned about: t[::-1]. -/
namespace HT
open PySem PySem.Spec PyProof.Rows
section
variable {prog : Program} {w : World} {A : Around} {E : Value → Shared → Prop} {s : Shared}
theorem places_rev (n : Nat) : Builtin.Slice.slicePlaces ((n : Int) - 1) (-1) (-1) = n := by
  unfold Builtin.Slice.slicePlaces
  rw [if_neg (by omega)]
  by_cases c : (n : Int) - 1 > -1
  · rw [if_pos c]
    first | omega | (simp; omega) | simp
  · rw [if_neg c]
    omega
theorem fm_congr {α β : Type} {f g : α → Option β} : ∀ {ms : List α}, (∀ m ∈ ms, f m = g m) → ms.filterMap f = ms.filterMap g
  | [], _ => rfl
  | m :: ms, h => by
    rw [List.filterMap_cons, List.filterMap_cons, h m List.mem_cons_self, fm_congr fun k hk => h k (List.mem_cons_of_mem _ hk)]
theorem pick_rev (xs : Array Value) : ((List.range xs.size).filterMap fun (m : Nat) => xs[(((xs.size : Int) - 1) + (m : Int) * (-1)).toNat]?).toArray = xs.toList.reverse.toArray := by
  congr 1
  obtain ⟨l⟩ := xs
  simp only [List.size_toArray, List.getElem?_toArray]
  have e : (List.range l.length).filterMap (fun (m : Nat) => l[(((l.length : Int) - 1) + (m : Int) * (-1)).toNat]?) = (List.range l.length).filterMap (fun m => l.reverse[m]?) := by
    refine fm_congr fun m hm => ?_
    have hm : m < l.length := by simpa using hm
    rw [List.getElem?_reverse hm]
    congr 1
    first | omega | skip
  rw [e]
  have h2 : ∀ ys : List Value, (List.range ys.length).filterMap (fun m => ys[m]?) = ys := fun ys => by
    induction ys with
    | nil => rfl
    | cons y ys ih =>
      rw [List.length_cons, List.range_succ_eq_map, List.filterMap_cons, List.filterMap_map]
      simp only [List.getElem?_cons_zero]
      congr 1
  have := h2 l.reverse
  rw [List.length_reverse] at this
  exact this
theorem sliceApplied_rev {sl : Addr} {t : Tok} {n : Nat} {Q : Int × Int × Nat → Shared → Prop} (hs : s.heap.IsSliceOf sl .none .none (.int (-1) t))
    (h : Q ((n : Int) - 1, -1, n) s) : wpAny (model prog w) A (Builtin.Slice.sliceApplied (.ref sl) (pure (n : Int))) Q E s := by
  obtain ⟨os, hos, hcs, hds⟩ := id hs
  unfold Builtin.Slice.sliceApplied Builtin.Slice.sliceFields
  refine wpAny_bind (wpAny_bind (wpAny_field hos hds (x := .none) rfl (wpAny_bind (wpAny_field hos hds (x := .none) rfl (wpAny_bind (wpAny_field hos hds (x := .int (-1) t) rfl (wpAny_pure ?_)))))))
  refine wpAny_bind (slicePart_int ?_)
  show wpAny _ _ (if ((-1 : Int) == 0) = true then _ else _) _ _ s
  rw [if_neg (by decide)]
  refine wpAny_bind (slicePart_none (wpAny_bind (slicePart_none (wpAny_bind (wpAny_pure ?_)))))
  show wpAny _ _ (pure ((n : Int) - 1, (-1 : Int), Builtin.Slice.slicePlaces ((n : Int) - 1) (-1) (-1))) _ _ s
  rw [places_rev]
  exact wpAny_pure h
theorem getItem_tuple_rev {t sl : Addr} {items : Array Value} {k : Tok} {Q : Value → Shared → Prop} (ht : IsTup s.heap t items) (hs : s.heap.IsSliceOf sl .none .none (.int (-1) k))
    (h : Q (.ref s.heap.objs.size) { s with heap := s.heap.push { cls := .type "tuple", data := .seq items.toList.reverse.toArray } })
    (hsz : items.size ≤ sizeLine) : wpAny (model prog w) A (getItem (.ref t) (.ref sl)) Q E s := by
  have htake : sizeOk (.seq items.toList.reverse.toArray) := by
    show items.toList.reverse.toArray.size ≤ sizeLine
    rw [List.size_toArray, List.length_reverse, Array.length_toList]
    exact hsz
  obtain ⟨os, hos, hcs, hds⟩ := id hs
  have hTs : s.TypeIs (.ref sl) "slice" := ⟨os, hos, hcs⟩
  unfold getItem
  try with_reducible refine wpAny_holding ?_
  first | refine wpAny_bind (wpAny_pure ?_) | skip
  refine wpAny_bind (wpAny_sequenceKey ht.typeIs (by decide) ?_)
  refine wpAny_bind (wpAny_callSpecial?_slot (name := Str.ofString "__getitem__") ht.typeIs PyProof.Rows.slot_tuple_getitem
    (wpAny_call_entry PyProof.Rows.slot_tuple_getitem ht.typeIs entry_tuple_getitem ?_ (args_tuple_getitem _ _)))
  show wpAny _ _ (Builtin.Tuple.tupleItemsOf (.ref t) >>= _) _ _ s
  refine wpAny_bind (tupleItemsOf_ ht ?_)
  refine wpAny_bind (wpAny_typeOf hTs ?_)
  rw [if_pos (by decide)]
  refine wpAny_bind (sliceApplied_rev hs ?_)
  show wpAny _ _ (if (((items.size : Int) - 1) == 0 && ((-1 : Int)) == 1 && items.size == items.size) = true then _ else _) _ _ s
  rw [if_neg (by simp), pick_rev]
  first
    | exact wpAny_bind (m := Builtin.Tuple.tupleExact _) (wpAny_newObj_type (wpAny_pure ⟨_, rfl, wpAny_pure h⟩) htake)
    | exact wpAny_bind (m := Builtin.Tuple.tupleExact _) (wpAny_newObj_type (wpAny_bind (wpAny_pure (wpAny_pure ⟨_, rfl, wpAny_pure h⟩))) htake)
    | exact wpAny_bind (wpAny_bind (m := Builtin.Tuple.tupleExact _) (wpAny_newObj_type (wpAny_pure (wpAny_pure ⟨_, rfl, wpAny_pure h⟩)) htake))
    | exact wpAny_bind (wpAny_bind (m := Builtin.Tuple.tupleExact _) (wpAny_newObj_type (wpAny_pure ⟨_, rfl, wpAny_pure h⟩) htake))
end
end HT
namespace EV
open PySem PySem.Spec L2 PyProof.Rows
def tRevT (K : PySem.W.Frag) (te : TE) : TE := fun σ H Q => te σ H fun x H1 => ∃ a xs, x = .ref a ∧ SqT K H1 a xs ∧ ∀ p, H1 p = none → Q (.ref p) (upd H1 p (.tup xs.reverse))
section
variable {X : Cx}
theorem pe_revT {e : Expr} {te : TE} {k : Nat} {p1 p2 p3 pos : Pos} (he : PE X e te) : PE X (.Subscript e (.Slice none none (some (.UnaryOp .USub (.Constant (.int 1) k p1) p2)) p3) pos) (tRevT X.K te) := by
  refine ⟨fun pins s σ H Q I h => ?_⟩
  refine Subscript_ (thn (he.run pins s σ H _ I h) fun v s1 ⟨x, H1, I1, r1, q1⟩ => ?_)
  obtain ⟨a, xs, ex, hx, q⟩ := q1
  subst ex
  cases r1
  have hst : PO X (some (.UnaryOp .USub (.Constant (.int 1) k p1) p2)) (tPart (tUn (rU fun i => .int (-i)) (tC (.int 1)))) := po_some (pe_un un_neg pe_int)
  refine wpAny_Slice (thn (po_none.run pins s1 σ H1 (fun o H2 => o = none ∧ H2 = H1) I1 ⟨rfl, rfl⟩) fun vl s2 ⟨l, H2, I2, pl, el, e2⟩ => ?_)
  subst el e2
  refine thn (po_none.run pins s2 σ H2 (fun o H3 => o = none ∧ H3 = H2) I2 ⟨rfl, rfl⟩) fun vu s3 ⟨u, H3, I3, pu, eu, e3⟩ => ?_
  subst eu e3
  refine thn (hst.run pins s3 σ H3 (fun o H4 => o = some (-1) ∧ H4 = H3) I3 ⟨1, rfl, -1, rfl, rfl, rfl⟩) fun vs s4 ⟨o, H4, I4, ps, eo, e4⟩ => ?_
  subst eo e4
  cases pl
  cases pu
  obtain ⟨tk, hvs⟩ : ∃ tk, vs = Value.int (-1) tk := by cases ps; exact ⟨_, rfl⟩
  subst hvs
  have I5 : L2.Inv X pins σ H4 { s4 with heap := s4.heap.push { cls := .type "slice", data := .fields #[.none, .none, .int (-1) tk] } } := I4.kept (t' := s4.toks) fun b ob q => Heap.get?_push_of_some _ q
  obtain ⟨its, r, ht, hz⟩ := I5.tuple hx
  have hlen := r.length
  refine tail_any (ops := [.ref a, .ref s4.heap.objs.size]) ht.typeIs (PyProof.Rows.slot_tuple_getitem.lookup) ?_ (by with_unfolding_all rfl)
  refine HT.getItem_tuple_rev ht (Heap.IsSliceOf.new _ .none .none (.int (-1) tk)) ?_ (by rw [List.size_toArray]; omega)
  refine ⟨.ref _, _, I5.laid (t' := s4.toks) (o := .tup xs.reverse) (fun b ob q => Heap.get?_push_of_some _ q) (Nat.le_refl _) ?_, rfl, q _ (I5.hok.fresh (Nat.le_refl _))⟩
  exact ⟨by rw [List.length_reverse]; exact hz, its.reverse, r.reverse, _, Heap.get?_push_size _ rfl, rfl, _, rfl⟩
end
end EV

set_option Elab.async false
set_option linter.all false
set_option maxRecDepth 100000
set_option maxHeartbeats 4000000
/-! EV7: expressions: the evaluator's answer is a reading of the text. -/
namespace EV
open PySem PySem.Spec L2

theorem weakE {X : Cx} {e : Expr} {t t' : TE} (p : PE X e t) (f : ∀ σ H Q, t' σ H Q → t σ H Q) : PE X e t' := ⟨fun pins s σ H Q I h => p.run pins s σ H Q I (f σ H Q h)⟩
theorem weakT {X : Cx} {e : Expr} {t t' : TT} (p : PT X e t) (f : ∀ σ H Q, t' σ H Q → t σ H Q) : PT X e t' := ⟨fun pins s σ H Q I h => p.run pins s σ H Q I (f σ H Q h)⟩
theorem weakW {X : Cx} {e : Expr} {t t' : TT} (p : PW X e t) (f : ∀ σ H Q, t' σ H Q → t σ H Q) : PW X e t' := ⟨fun wh pins s σ H Q I h => p.run wh pins s σ H Q I (f σ H Q h)⟩
theorem weakA {X : Cx} {e : List Expr} {t t' : TA} (p : PA X e t) (f : ∀ σ H Q, t' σ H Q → t σ H Q) : PA X e t' := ⟨fun pos pins s σ H Q I h => p.run pos pins s σ H Q I (f σ H Q h)⟩
theorem weakI {X : Cx} {tg e : Expr} {t t' : TI} (p : PI X tg e t) (f : ∀ σ H Q, t' σ H Q → t σ H Q) : PI X tg e t' := ⟨fun pins s σ H Q I h => p.run pins s σ H Q I (f σ H Q h)⟩
theorem weakS {X : Cx} {e : Stmt} {t t' : TS} (p : PS X e t) (f : ∀ D σ H, t' D σ H → t D σ H) : PS X e t' := ⟨fun pins s σ H D I h => p.run pins s σ H D I (f D σ H h)⟩
theorem weakSs {X : Cx} {e : List Stmt} {t t' : TS} (p : PSs X e t) (f : ∀ D σ H, t' D σ H → t D σ H) : PSs X e t' := ⟨fun pins s σ H D I h => p.run pins s σ H D I (f D σ H h)⟩

theorem Fi.later {K : PySem.W.Frag} {φ φ1 : List Addr} {H H1 : Hp} {h' : EH} {v : PV} {Q : VK} (f : Fi K φ H h' v Q) (e : Ext φ H φ1 H1) : Fi K φ1 H1 h' v Q :=
  fun φ' H' w e' r rv => f φ' H' w (e.trans e') r rv
def Fis (K : PySem.W.Frag) (φ : List Addr) (H : Hp) (h' : EH) (ps : List PV) (Q : List V → Hp → Prop) : Prop :=
  ∀ φ' H' vs, Ext φ H φ' H' → Rep K φ' H' h' → RVs K φ' H' ps vs → Q vs H'
def Fib (K : PySem.W.Frag) (φ : List Addr) (H : Hp) (h' : EH) (b : Bool) (Q : Bool → Hp → Prop) : Prop :=
  ∀ φ' H', Ext φ H φ' H' → Rep K φ' H' h' → Q b H'

def tE (K : PySem.W.Frag) (m : Sg → EH → Rt) : TE := fun σ H Q => ∃ φ se h v h', Rep K φ H h ∧ RS K φ H se σ ∧ m se h = some (v, h') ∧ Fi K φ H h' v Q
def tA (K : PySem.W.Frag) (m : Sg → EH → Option (List PV × EH)) : TA := fun σ H Q => ∃ φ se h vs h', Rep K φ H h ∧ RS K φ H se σ ∧ m se h = some (vs, h') ∧ Fis K φ H h' vs Q
def tT (K : PySem.W.Frag) (m : Sg → EH → Rt) : TT := fun σ H Q => ∃ φ se h v h' b, Rep K φ H h ∧ RS K φ H se σ ∧ m se h = some (v, h') ∧ truth h' v = some b ∧ Fib K φ H h' b Q

section
variable {X : Cx} {F : Ca} {fu : Nat} {a b c e : Expr} {ca cb cc : CE} {es : List Expr} {cs : CEs} {pos : Pos}
/-- how an expression stands: as a value -/
abbrev DE (X : Cx) (F : Ca) (fu : Nat) (e : Expr) (c : CE) : Prop := PE X e (tE X.K (ev F fu c))
abbrev DT (X : Cx) (F : Ca) (fu : Nat) (e : Expr) (c : CE) : Prop := PT X e (tT X.K (ev F fu c))
abbrev DW (X : Cx) (F : Ca) (fu : Nat) (e : Expr) (c : CE) : Prop := PW X e (tT X.K (ev F fu c))
abbrev DA (X : Cx) (F : Ca) (fu : Nat) (es : List Expr) (c : CEs) : Prop := PA X es (tA X.K (evs F fu c))

theorem de_var {i : Nat} {x : Str} (hN : X.N[i]? = some x) (hv : Vis X.env.scope x) (hd : (x == ("__debug__" : Str)) = false) (hcd : (x == ("__classdict__" : Str)) = false) : DE X F fu (.Name x pos) (.var i) := by
  refine weakE (pe_var hN hv hd hcd) fun σ H Q ⟨φ, se, h, v, h', r, rs, e, f⟩ => ?_
  simp only [ev] at e
  split at e
  · rename_i q
    cases e
    obtain ⟨w, e1, e2⟩ := rs.2 _ _ q
    exact ⟨w, e1, f.here r e2⟩
  · cases e
theorem de_lit {v : PV} {w : V} (p : PE X e (tC w)) (q : ∀ φ H, RV X.K φ H v w) : DE X F fu e (.lit v) := by
  refine weakE p fun σ H Q ⟨φ, se, h, v', h', r, rs, e, f⟩ => ?_
  simp only [ev] at e
  cases e
  exact f.here r (q φ H)
theorem de_bin {o : BOp} {r : R2} (ho : OpR X (binaryOp (bOp o)) r) (hb : BinOk X.K r (opB o)) (ha : DE X F fu a ca) (hc : DE X F fu b cb) : DE X F fu (.BinOp a (bOp o) b pos) (.bin o ca cb) := by
  refine weakE (pe_op ho ha hc) fun σ H Q ⟨φ, se, h, v, h', r, rs, e, f⟩ => ?_
  simp only [ev] at e
  split at e
  · cases e
  · rename_i x h1 ex
    split at e
    · cases e
    · rename_i y h2 ey
      exact ⟨φ, se, h, x, h1, r, rs, ex, fun φ1 H1 x' e1 r1 rx => ⟨φ1, se, h1, y, h2, r1, rs.mono r e1, ey, fun φ2 H2 y' e2 r2 ry =>
        hb φ2 H2 h2 x y x' y' v h' Q r2 (rx.mono r1 e2) ry e (f.later (e1.trans e2))⟩⟩
theorem de_cmp {o : COp} {r : R2} (ho : OpR X (compareOp (cOp o)) r) (hb : CmpOk X.K r (opC o)) (ha : DE X F fu a ca) (hc : DE X F fu b cb) (hm : behindInMarks (cOp o) b = false) : DE X F fu (.Compare a [cOp o] [b] pos) (.cmp o ca cb) := by
  refine weakE (pe_cmpR ho ha hc hm) fun σ H Q ⟨φ, se, h, v, h', r, rs, e, f⟩ => ?_
  simp only [ev] at e
  split at e
  · cases e
  · rename_i x h1 ex
    split at e
    · cases e
    · rename_i y h2 ey
      split at e
      · cases e
      · rename_i d ed
        cases e
        exact ⟨φ, se, h, x, h1, r, rs, ex, fun φ1 H1 x' e1 r1 rx => ⟨φ1, se, h1, y, _, r1, rs.mono r e1, ey, fun φ2 H2 y' e2 r2 ry =>
          hb φ2 H2 _ x y x' y' d Q r2 (rx.mono r1 e2) ry ed (f φ2 H2 _ (e1.trans e2) r2 (.bl _))⟩⟩
theorem dt_cmp {o : COp} {r : R2} (ho : OpR X (compareOp (cOp o)) r) (hb : CmpOk X.K r (opC o)) (ha : DE X F fu a ca) (hc : DE X F fu b cb) (hm : behindInMarks (cOp o) b = false) : DT X F fu (.Compare a [cOp o] [b] pos) (.cmp o ca cb) := by
  refine weakT (pt_cmpR ho ha hc hm) fun σ H Q ⟨φ, se, h, v, h', bb, r, rs, e, et, f⟩ => ?_
  simp only [ev] at e
  split at e
  · cases e
  · rename_i x h1 ex
    split at e
    · cases e
    · rename_i y h2 ey
      split at e
      · cases e
      · rename_i d ed
        cases e
        cases et
        exact ⟨φ, se, h, x, h1, r, rs, ex, fun φ1 H1 x' e1 r1 rx => ⟨φ1, se, h1, y, _, r1, rs.mono r e1, ey, fun φ2 H2 y' e2 r2 ry =>
          hb φ2 H2 _ x y x' y' _ _ r2 (rx.mono r1 e2) ry ed ⟨_, rfl, f φ2 H2 (e1.trans e2) r2⟩⟩⟩
theorem de_chn {o o' : COp} {r r' : R2} (ho : OpR X (compareOp (cOp o)) r) (hb : CmpOk X.K r (opC o)) (ho' : OpR X (compareOp (cOp o')) r') (hb' : CmpOk X.K r' (opC o')) (ha : DE X F fu a ca) (hc : DE X F fu b cb) (hd : DE X F fu c cc) (hm : lastMarks [cOp o, cOp o'] [b, c] = false) : DE X F fu (.Compare a [cOp o, cOp o'] [b, c] pos) (.chn o o' ca cb cc) := by
  refine weakE (pe_chain ho ho' ha hc hd hm) fun σ H Q ⟨φ, se, h, v, h', r, rs, e, f⟩ => ?_
  simp only [ev] at e
  split at e
  · cases e
  · rename_i x h1 ex
    split at e
    · cases e
    · rename_i y h2 ey
      refine ⟨φ, se, h, x, h1, r, rs, ex, fun φ1 H1 x' e1 r1 rx => ⟨φ1, se, h1, y, _, r1, rs.mono r e1, ey, fun φ2 H2 y' e2 r2 ry => ?_⟩⟩
      split at e
      · cases e
      · rename_i ed
        cases e
        exact hb φ2 H2 _ x y x' y' _ _ r2 (rx.mono r1 e2) ry ed ⟨false, rfl, by rw [if_neg (by decide)]; exact f φ2 H2 _ (e1.trans e2) r2 (.bl _)⟩
      · rename_i ed
        split at e
        · cases e
        · rename_i z h3 ez
          split at e
          · cases e
          · rename_i d' ed'
            cases e
            refine hb φ2 H2 _ x y x' y' _ _ r2 (rx.mono r1 e2) ry ed ⟨true, rfl, ?_⟩
            rw [if_pos rfl]
            exact ⟨φ2, se, h2, z, _, r2, rs.mono r (e1.trans e2), ez, fun φ3 H3 z' e3 r3 rz => hb' φ3 H3 _ y z y' z' d' Q r3 (ry.mono r2 e3) rz ed' (f φ3 H3 _ (e1.trans (e2.trans e3)) r3 (.bl _))⟩
theorem dt_chn {o o' : COp} {r r' : R2} (ho : OpR X (compareOp (cOp o)) r) (hb : CmpOk X.K r (opC o)) (ho' : OpR X (compareOp (cOp o')) r') (hb' : CmpOk X.K r' (opC o')) (ha : DE X F fu a ca) (hc : DE X F fu b cb) (hd : DE X F fu c cc) (hm : lastMarks [cOp o, cOp o'] [b, c] = false) : DT X F fu (.Compare a [cOp o, cOp o'] [b, c] pos) (.chn o o' ca cb cc) := by
  refine weakT (pt_chain ho ho' ha hc hd hm) fun σ H Q ⟨φ, se, h, v, h', bb, r, rs, e, et, f⟩ => ?_
  simp only [ev] at e
  split at e
  · cases e
  · rename_i x h1 ex
    split at e
    · cases e
    · rename_i y h2 ey
      refine ⟨φ, se, h, x, h1, r, rs, ex, fun φ1 H1 x' e1 r1 rx => ⟨φ1, se, h1, y, _, r1, rs.mono r e1, ey, fun φ2 H2 y' e2 r2 ry => ?_⟩⟩
      split at e
      · cases e
      · rename_i ed
        cases e
        cases et
        exact hb φ2 H2 _ x y x' y' _ _ r2 (rx.mono r1 e2) ry ed ⟨false, rfl, by rw [if_neg (by decide)]; exact ⟨_, rfl, f φ2 H2 (e1.trans e2) r2⟩⟩
      · rename_i ed
        split at e
        · cases e
        · rename_i z h3 ez
          split at e
          · cases e
          · rename_i d' ed'
            cases e
            cases et
            refine hb φ2 H2 _ x y x' y' _ _ r2 (rx.mono r1 e2) ry ed ⟨true, rfl, ?_⟩
            rw [if_pos rfl]
            exact ⟨φ2, se, h2, z, _, r2, rs.mono r (e1.trans e2), ez, fun φ3 H3 z' e3 r3 rz => hb' φ3 H3 _ y z y' z' _ _ r3 (ry.mono r2 e3) rz ed' ⟨_, rfl, f φ3 H3 (e1.trans (e2.trans e3)) r3⟩⟩
/-- a test whose truth is its value's -/
theorem dt_val (ha : DE X F fu a ca) (he : ∀ whole, isTrue a X.env whole = (do let v ← whole; standAt a.pos; holding [v] (truthy v))) : DT X F fu a ca := by
  refine weakT (pt_truth ha he) fun σ H Q ⟨φ, se, h, v, h', bb, r, rs, e, et, f⟩ => ?_
  exact ⟨φ, se, h, v, h', r, rs, e, fun φ1 H1 x' e1 r1 rx => ⟨bb, truth_ok r1 rx et, f φ1 H1 e1 r1⟩⟩
theorem de_neg (ha : DE X F fu a ca) : DE X F fu (.UnaryOp .USub a pos) (.neg ca) := by
  refine weakE (pe_un un_neg ha) fun σ H Q ⟨φ, se, h, v, h', r, rs, e, f⟩ => ?_
  simp only [ev] at e
  split at e
  · rename_i i h1 ei
    cases e
    exact ⟨φ, se, h, _, _, r, rs, ei, fun φ1 H1 x' e1 r1 rx => by cases rx; exact ⟨i, rfl, f φ1 H1 _ e1 r1 (.int _)⟩⟩
  · cases e
theorem de_inv (ha : DE X F fu a ca) : DE X F fu (.UnaryOp .Invert a pos) (.inv ca) := by
  refine weakE (pe_un un_inv ha) fun σ H Q ⟨φ, se, h, v, h', r, rs, e, f⟩ => ?_
  simp only [ev] at e
  split at e
  · rename_i i h1 ei
    cases e
    exact ⟨φ, se, h, _, _, r, rs, ei, fun φ1 H1 x' e1 r1 rx => by cases rx; exact ⟨i, rfl, f φ1 H1 _ e1 r1 (.int _)⟩⟩
  · cases e
theorem de_not (ha : DE X F fu a ca) : DE X F fu (.UnaryOp .Not a pos) (.nt ca) := by
  refine weakE (pe_notT ha) fun σ H Q ⟨φ, se, h, v, h', r, rs, e, f⟩ => ?_
  simp only [ev] at e
  split at e
  · cases e
  · rename_i x h1 ex
    split at e
    · cases e
    · rename_i d ed
      cases e
      exact ⟨φ, se, h, x, _, r, rs, ex, fun φ1 H1 x' e1 r1 rx => ⟨d, truth_ok r1 rx ed, f φ1 H1 _ e1 r1 (.bl _)⟩⟩
theorem dt_not (ha : DT X F fu a ca) : DT X F fu (.UnaryOp .Not a pos) (.nt ca) := by
  refine weakT (pt_not ha) fun σ H Q ⟨φ, se, h, v, h', bb, r, rs, e, et, f⟩ => ?_
  simp only [ev] at e
  split at e
  · cases e
  · rename_i x h1 ex
    split at e
    · cases e
    · rename_i d ed
      cases e
      cases et
      exact ⟨φ, se, h, x, _, d, r, rs, ex, ed, fun φ1 H1 e1 r1 => f φ1 H1 e1 r1⟩
theorem de_and {rest : List Expr} (ha : DE X F fu a ca) (hb : DE X F fu (.BoolOp .And (b :: rest) pos) cb) : DE X F fu (.BoolOp .And (a :: b :: rest) pos) (.and ca cb) := by
  refine weakE (pe_andT ha hb) fun σ H Q ⟨φ, se, h, v, h', r, rs, e, f⟩ => ?_
  simp only [ev] at e
  split at e
  · cases e
  · rename_i x h1 ex
    split at e
    · cases e
    · rename_i ed
      exact ⟨φ, se, h, x, _, r, rs, ex, fun φ1 H1 x' e1 r1 rx => ⟨true, truth_ok r1 rx ed, iteT ⟨φ1, se, h1, v, h', r1, rs.mono r e1, e, f.later e1⟩⟩⟩
    · rename_i ed
      cases e
      exact ⟨φ, se, h, _, _, r, rs, ex, fun φ1 H1 x' e1 r1 rx => ⟨false, truth_ok r1 rx ed, iteF (f φ1 H1 _ e1 r1 rx)⟩⟩
theorem de_or {rest : List Expr} (ha : DE X F fu a ca) (hb : DE X F fu (.BoolOp .Or (b :: rest) pos) cb) : DE X F fu (.BoolOp .Or (a :: b :: rest) pos) (.or ca cb) := by
  refine weakE (pe_orT ha hb) fun σ H Q ⟨φ, se, h, v, h', r, rs, e, f⟩ => ?_
  simp only [ev] at e
  split at e
  · cases e
  · rename_i x h1 ex
    split at e
    · cases e
    · rename_i ed
      cases e
      exact ⟨φ, se, h, _, _, r, rs, ex, fun φ1 H1 x' e1 r1 rx => ⟨true, truth_ok r1 rx ed, iteT (f φ1 H1 _ e1 r1 rx)⟩⟩
    · rename_i ed
      exact ⟨φ, se, h, x, _, r, rs, ex, fun φ1 H1 x' e1 r1 rx => ⟨false, truth_ok r1 rx ed, iteF ⟨φ1, se, h1, v, h', r1, rs.mono r e1, e, f.later e1⟩⟩⟩
theorem dw_and1 (ha : DT X F fu a ca) : DW X F fu (.BoolOp .And [a] pos) ca := pw_and1 ha
theorem dw_or1 (ha : DT X F fu a ca) : DW X F fu (.BoolOp .Or [a] pos) ca := pw_or1 ha
theorem dw_and {rest : List Expr} (ha : DT X F fu a ca) (hb : DW X F fu (.BoolOp .And (b :: rest) pos) cb) : DW X F fu (.BoolOp .And (a :: b :: rest) pos) (.and ca cb) := by
  refine weakW (pw_and ha hb) fun σ H Q ⟨φ, se, h, v, h', bb, r, rs, e, et, f⟩ => ?_
  simp only [ev] at e
  split at e
  · cases e
  · rename_i x h1 ex
    split at e
    · cases e
    · rename_i ed
      exact ⟨φ, se, h, x, _, true, r, rs, ex, ed, fun φ1 H1 e1 r1 => iteT ⟨φ1, se, h1, v, h', bb, r1, rs.mono r e1, e, et, fun φ2 H2 e2 r2 => f φ2 H2 (e1.trans e2) r2⟩⟩
    · rename_i ed
      cases e
      rw [ed] at et
      cases et
      exact ⟨φ, se, h, v, _, false, r, rs, ex, ed, fun φ1 H1 e1 r1 => iteF (f φ1 H1 e1 r1)⟩
theorem dw_or {rest : List Expr} (ha : DT X F fu a ca) (hb : DW X F fu (.BoolOp .Or (b :: rest) pos) cb) : DW X F fu (.BoolOp .Or (a :: b :: rest) pos) (.or ca cb) := by
  refine weakW (pw_or ha hb) fun σ H Q ⟨φ, se, h, v, h', bb, r, rs, e, et, f⟩ => ?_
  simp only [ev] at e
  split at e
  · cases e
  · rename_i x h1 ex
    split at e
    · cases e
    · rename_i ed
      cases e
      rw [ed] at et
      cases et
      exact ⟨φ, se, h, v, _, true, r, rs, ex, ed, fun φ1 H1 e1 r1 => iteT (f φ1 H1 e1 r1)⟩
    · rename_i ed
      exact ⟨φ, se, h, x, _, false, r, rs, ex, ed, fun φ1 H1 e1 r1 => iteF ⟨φ1, se, h1, v, h', bb, r1, rs.mono r e1, e, et, fun φ2 H2 e2 r2 => f φ2 H2 (e1.trans e2) r2⟩⟩
theorem de_ife (hc : DT X F fu c cc) (ha : DE X F fu a ca) (hb : DE X F fu b cb) : DE X F fu (.IfExp c a b pos) (.ife cc ca cb) := by
  refine weakE (pe_ifExp hc ha hb) fun σ H Q ⟨φ, se, h, v, h', r, rs, e, f⟩ => ?_
  simp only [ev] at e
  split at e
  · cases e
  · rename_i x h1 ex
    split at e
    · cases e
    · rename_i ed
      exact ⟨φ, se, h, x, _, true, r, rs, ex, ed, fun φ1 H1 e1 r1 => iteT ⟨φ1, se, h1, v, h', r1, rs.mono r e1, e, f.later e1⟩⟩
    · rename_i ed
      exact ⟨φ, se, h, x, _, false, r, rs, ex, ed, fun φ1 H1 e1 r1 => iteF ⟨φ1, se, h1, v, h', r1, rs.mono r e1, e, f.later e1⟩⟩
/-! arguments -/
theorem da_nil : DA X F fu [] .nil := by
  refine weakA pa_nil fun σ H Q ⟨φ, se, h, vs, h', r, rs, e, f⟩ => ?_
  simp only [evs] at e
  cases e
  exact f φ H [] (Ext.refl _ _) r .nil
theorem da_cons (ha : DE X F fu a ca) (hr : DA X F fu es cs) (hs : starEach (a :: es) X.env = (false, eval a X.env) :: starEach es X.env) : DA X F fu (a :: es) (.cons ca cs) := by
  refine weakA (pa_cons ha hr hs) fun σ H Q ⟨φ, se, h, vs, h', r, rs, e, f⟩ => ?_
  simp only [evs] at e
  split at e
  · cases e
  · rename_i x h1 ex
    split at e
    · cases e
    · rename_i ys h2 ey
      cases e
      exact ⟨φ, se, h, x, h1, r, rs, ex, fun φ1 H1 x' e1 r1 rx => ⟨φ1, se, h1, ys, _, r1, rs.mono r e1, ey, fun φ2 H2 ys' e2 r2 ry =>
        f φ2 H2 _ (e1.trans e2) r2 (.cons (rx.mono r1 e2) ry)⟩⟩
theorem da_star {p : Pos} (ha : DE X F fu a ca) (hr : DA X F fu es cs) : DA X F fu (.Starred a p :: es) (.star ca cs) := by
  refine weakA (StX.pa_star ha hr (by rfl)) fun σ H Q ⟨φ, se, h, vs, h', r, rs, e, f⟩ => ?_
  simp only [evs] at e
  split at e
  · cases e
  · rename_i x h1 ex
    split at e
    · cases e
    · rename_i ys ey
      split at e
      · cases e
      · rename_i zs h2 ez
        cases e
        refine ⟨φ, se, h, x, h1, r, rs, ex, fun φ1 H1 x' e1 r1 rx => ?_⟩
        obtain ⟨l, ws, rfl, e4, e5⟩ := isLT_of r1 rx ey
        refine ⟨l, ws, rfl, e4.symm, ⟨φ1, se, h1, zs, _, r1, rs.mono r e1, ez, fun φ2 H2 zs' e2 r2 rz => ?_⟩⟩
        exact f φ2 H2 _ (e1.trans e2) r2 ((e5.mono r1 e2).append rz)
theorem de_tup {k : Nat} (h : DA X F fu es cs) : DE X F fu (.Tuple es k pos) (.tup cs) := by
  refine weakE (pe_tup h) fun σ H Q ⟨φ, se, h, v, h', r, rs, e, f⟩ => ?_
  simp only [ev] at e
  split at e
  · cases e
  · rename_i xs h1 ex
    unfold newT at e
    split at e
    · rename_i hz
      cases e
      exact ⟨φ, se, h, xs, _, r, rs, ex, fun φ1 H1 vs e1 r1 rv => ⟨by rw [← rv.length]; exact hz, fun p hp => (f.later e1).tup r1 rv hp⟩⟩
    · cases e
theorem de_lst (h : DA X F fu es cs) : DE X F fu (.List es pos) (.lst cs) := by
  refine weakE (pe_lst h) fun σ H Q ⟨φ, se, h, v, h', r, rs, e, f⟩ => ?_
  simp only [ev] at e
  split at e
  · cases e
  · rename_i xs h1 ex
    unfold newL new at e
    split at e
    · rename_i hz
      cases e
      exact ⟨φ, se, h, xs, _, r, rs, ex, fun φ1 H1 vs e1 r1 rv => ⟨by rw [← rv.length]; exact hz, fun p hp => (f.later e1).newLst r1 rv hp⟩⟩
    · cases e
theorem de_ix {r : R2} (ho : IxR X r) (hb : BinOk X.K r (fun x y h => (opIx x y h).map (·, h))) (ha : DE X F fu a ca) (hc : DE X F fu b cb) (hs : PlainIx b) : DE X F fu (.Subscript a b pos) (.idx ca cb) := by
  refine weakE (pe_ix ho ha hc hs) fun σ H Q ⟨φ, se, h, v, h', r, rs, e, f⟩ => ?_
  simp only [ev] at e
  split at e
  · cases e
  · rename_i x h1 ex
    split at e
    · cases e
    · rename_i y h2 ey
      split at e
      · cases e
      · rename_i z ez
        cases e
        exact ⟨φ, se, h, x, h1, r, rs, ex, fun φ1 H1 x' e1 r1 rx => ⟨φ1, se, h1, y, _, r1, rs.mono r e1, ey, fun φ2 H2 y' e2 r2 ry =>
          hb φ2 H2 _ x y x' y' v _ Q r2 (rx.mono r1 e2) ry (by show Option.map _ _ = _; rw [ez]; rfl) (f.later (e1.trans e2))⟩⟩
/-- a part of a slice -/
def tO (K : PySem.W.Frag) (b : Bool) (m : Sg → EH → Rt) : TO := fun σ H Q => ∃ φ se h v h' o, Rep K φ H h ∧ RS K φ H se σ ∧ m se h = some (v, h') ∧ partOf b v = some o ∧ ∀ φ' H', Ext φ H φ' H' → Rep K φ' H' h' → Q o H'
theorem do_none : PO X none (tO X.K false (ev F fu (.lit .non))) := by
  refine ⟨fun pins s σ H Q I ⟨φ, se, h, v, h', o, r, rs, e, ep, f⟩ => ?_⟩
  simp only [ev] at e
  cases e
  cases ep
  exact po_none.run pins s σ H Q I (f φ H (Ext.refl _ _) r)
theorem do_some (ha : DE X F fu a ca) : PO X (some a) (tO X.K true (ev F fu ca)) := by
  refine ⟨fun pins s σ H Q I ⟨φ, se, h, v, h', o, r, rs, e, ep, f⟩ => ?_⟩
  refine (po_some ha).run pins s σ H Q I ⟨φ, se, h, v, h', r, rs, e, fun φ1 H1 x' e1 r1 rx => ?_⟩
  rcases partOf_ok rx ep with ⟨z, _⟩ | ⟨i, _, rfl, rfl⟩
  · cases z
  · exact ⟨i, rfl, f φ1 H1 e1 r1⟩
theorem de_slc {fl fh : Bool} {lo hi : Option Expr} {cl ch : CE} {p2 : Pos} {r : V → Option Int → Option Int → Hp → VK → Prop} (ho : SlR X r) (hb : SlOk X.K r) (ha : DE X F fu a ca) (hl : PO X lo (tO X.K fl (ev F fu cl))) (hh : PO X hi (tO X.K fh (ev F fu ch))) :
    DE X F fu (.Subscript a (.Slice lo hi none p2) pos) (.slc fl fh ca cl ch) := by
  refine weakE (pe_slice ho ha hl hh) fun σ H Q ⟨φ, se, h, v, h', r, rs, e, f⟩ => ?_
  simp only [ev] at e
  split at e
  · cases e
  · rename_i x h1 ex
    split at e
    · cases e
    · rename_i l h2 el
      split at e
      · cases e
      · rename_i u h3 eu
        split at e
        · rename_i l' u' pl pu
          exact ⟨φ, se, h, x, h1, r, rs, ex, fun φ1 H1 x' e1 r1 rx => ⟨φ1, se, h1, l, h2, l', r1, rs.mono r e1, el, pl, fun φ2 H2 e2 r2 => ⟨φ2, se, h2, u, h3, u', r2, rs.mono r (e1.trans e2), eu, pu, fun φ3 H3 e3 r3 =>
            hb φ3 H3 h3 x x' l' u' v h' Q r3 (rx.mono r1 (e2.trans e3)) e (f.later (e1.trans (e2.trans e3)))⟩⟩⟩
        · cases e
theorem pe_or {e : Expr} {t u : TE} (h1 : PE X e t) (h2 : PE X e u) : PE X e (fun σ H Q => t σ H Q ∨ u σ H Q) :=
  ⟨fun pins s σ H Q I h => h.elim (h1.run pins s σ H Q I) (h2.run pins s σ H Q I)⟩
theorem de_rev {k : Nat} {p1 p2 p3 : Pos} (ha : DE X F fu a ca) : DE X F fu (.Subscript a (.Slice none none (some (.UnaryOp .USub (.Constant (.int 1) k p1) p2)) p3) pos) (.rev ca) := by
  refine weakE (pe_or (pe_revL ha) (pe_revT ha)) fun σ H Q ⟨φ, se, h, v, h', r, rs, e, f⟩ => ?_
  simp only [ev] at e
  split at e
  · cases e
  · rename_i x h1 ex
    unfold opRev at e
    split at e
    · rename_i xs
      cases e
      refine .inr ⟨φ, se, h, _, _, r, rs, ex, fun φ1 H1 x' e1 r1 rx => ?_⟩
      cases rx with
      | tup t ts => exact ⟨_, _, rfl, t, fun p hp => (f.later e1) φ1 _ _ (Ext.put hp) (r1.put hp) (.tup (SqT.of upd_same) (ts.rev.mono r1 (Ext.put hp)))⟩
    · split at e
      · rename_i xs exs
        cases e
        refine .inl ⟨φ, se, h, x, h1, r, rs, ex, fun φ1 H1 x' e1 r1 rx => ?_⟩
        obtain ⟨l, ws, rfl, e4, e5⟩ := isL_of r1 rx exs
        exact ⟨l, ws, rfl, e4, fun p hp => (f.later e1).newLst r1 e5.rev hp⟩
      · cases e
end
end EV

set_option Elab.async false
set_option linter.all false
set_option maxRecDepth 100000
set_option maxHeartbeats 4000000
/-! EV8: calls of built-ins and of own defs, methods, dict displays. -/
namespace EV
open PySem PySem.Spec L2

/-- an expression that is no starred one -/
def isPlain : Expr → Bool
  | .Starred _ _ => false
  | _ => true
theorem star_plain {e : Expr} {es : List Expr} {env : Env} (h : isPlain e = true) : starEach (e :: es) env = (false, eval e env) :: starEach es env := by
  cases e <;> first | rfl | cases h
theorem back_plain {pos : Pos} {env : Env} : ∀ {es : List Expr}, es.all isPlain = true → (backTo pos (starEach es env)).any (·.1) = false
  | [], _ => rfl
  | e :: es, h => by
    rw [List.all_cons, Bool.and_eq_true] at h
    rw [star_plain h.1]
    have q := back_plain (pos := pos) (env := env) h.2
    show (false || (backTo pos (starEach es env)).any (·.1)) = false
    rw [q]; rfl
theorem back_all {pos : Pos} {env : Env} : ∀ {es : List Expr}, es.all isPlain = true → (backTo pos (starEach es env)).all (fun x => !x.1) = true
  | [], _ => rfl
  | e :: es, h => by
    rw [List.all_cons, Bool.and_eq_true] at h
    rw [star_plain h.1]
    have q := back_all (pos := pos) (env := env) h.2
    show (true && (backTo pos (starEach es env)).all (fun x => !x.1)) = true
    rw [q]; rfl

/-- a def's promise where nothing is being shown around it -/
structure FnG (P : Program) (w : World) (K : PySem.W.Frag) (mg : Str → Option Value) (base : Heap) (k : Nat) (f : Addr) (fd : FuncData) (ps : List Str) (sp : Sp) : Prop where
  len : ∀ vs H Q E, sp vs H Q E → vs.length = ps.length
  run : ∀ (A : Around) (outer : List Env) (s : Shared) (H : Hp) (args : Args) (us : List Value) (vs : List V) (Q : VK) (E : XK),
    Room k A → A.guards = some [] → Env0 P w K mg base A outer s H → BindsTo s fd args (ps.zip us) → Vals vs us → sp vs H Q E →
      codeAny (model P w) A (.call (.ref f) args) (CR CX0 outer P w H s Q E) s
theorem FnG.mono {P : Program} {w : World} {K : PySem.W.Frag} {mg : Str → Option Value} {base : Heap} {j k : Nat} {f : Addr} {fd : FuncData} {ps : List Str} {sp : Sp} (F : FnG P w K mg base j f fd ps sp) (h : j ≤ k) : FnG P w K mg base k f fd ps sp :=
  ⟨F.len, fun A outer s H args us vs Q E r => F.run A outer s H args us vs Q E (r.mono h)⟩
def spE (K : PySem.W.Frag) (m : List PV → EH → Rt) : Sp := fun vs H Q _ => ∃ φ xs h v h', Rep K φ H h ∧ RVs K φ H xs vs ∧ m xs h = some (v, h') ∧ Fi K φ H h' v Q

section
variable {X : Cx} {F : Ca} {fu : Nat} {a b c e : Expr} {ca cb cc : CE} {es : List Expr} {cs : CEs} {pos p : Pos}
theorem run_fnG {k : Nat} {f : Addr} {fd : FuncData} {ps : List Str} {sp : Sp} {pins : List (Addr × Obj)} {σ : L2.St} {H : Hp} {s : Shared} {Q : VK} {us : List Value} {vs : List V}
    (G : FnG X.prog X.w X.K X.mg X.base k f fd ps sp) (hr : Room k X.A) (hg : X.A.guards = some []) (hb : Binds X.K fd ps []) (I : Inv X pins σ H s) (r : Vals vs us) (h : sp vs H Q E0) :
    wpAny (model X.prog X.w) X.A (call (.ref f) us) (EP X pins σ Q) X.xe s := by
  have hl : (us ++ []).length = ps.length := by
    rw [List.append_nil, ← r.length]
    exact G.len _ _ _ _ h
  have hbb := hb s us I.kIn hl
  rw [List.append_nil] at hbb
  have hc := G.run X.A X.stack s H ⟨us, []⟩ us vs Q E0 hr hg I.env0 hbb r h
  refine wpAny_call (codeAny_mono hc fun o s' ho => ?_)
  match o, ho with
  | .ok (.ret u), ho => exact I.after ho
  | .ok .next, ho => exact ho.elim
  | .ok .brk, ho => exact ho.elim
  | .ok .cont, ho => exact ho.elim
  | .error e, ho => exact ho.elim
end
/-- what a call leaves out: the defaults -/
def fillA (np : Nat) (ds : List PV) (n : Nat) : Option (List PV) := if n = np then some [] else if n < np ∧ np - n ≤ ds.length then some (ds.drop (ds.length - (np - n))) else none
def litsL : List PV → CEs
  | [] => .nil
  | v :: ds => .cons (.lit v) (litsL ds)
def appL (cs : CEs) (ds : List PV) : CEs := match cs with
  | .nil => litsL ds
  | .cons e r => .cons e (appL r ds)
  | .star e r => .star e (appL r ds)
theorem evs_lits {F : Ca} {fu : Nat} {s : Sg} {h : EH} : ∀ ds : List PV, evs F fu (litsL ds) s h = some (ds, h)
  | [] => by simp only [litsL, evs]
  | v :: ds => by simp only [litsL, evs, ev, evs_lits ds]
theorem evs_app {F : Ca} {fu : Nat} {s : Sg} {ds : List PV} : ∀ (cs : CEs) (h : EH), evs F fu (appL cs ds) s h = (evs F fu cs s h).map fun p => (p.1 ++ ds, p.2)
  | .nil, h => by rw [appL, evs_lits]; simp only [evs, Option.map_some, List.nil_append]
  | .cons e r, h => by
    simp only [appL, evs]
    cases ev F fu e s h with
    | none => rfl
    | some x =>
      obtain ⟨x, h1⟩ := x
      simp only [evs_app r]
      cases evs F fu r s h1 with
      | none => rfl
      | some y => rfl
  | .star e r, h => by
    simp only [appL, evs]
    cases ev F fu e s h with
    | none => rfl
    | some x =>
      obtain ⟨x, h1⟩ := x
      simp only
      cases isLT h1 x with
      | none => rfl
      | some ys =>
        simp only [evs_app r]
        cases evs F fu r s h1 with
        | none => rfl
        | some y => simp only [Option.map_some, List.append_assoc]
/-- the values of the defaults that a call leaves out, and that the others and these are bound in their order -/
def BindE (K : PySem.W.Frag) (fd : FuncData) (ps : List Str) (ds : List PV) : Prop := ∀ n dl, fillA ps.length ds n = some dl → ∃ (vs : List V) (us : List Value), Vals vs us ∧ (∀ φ H, RVs K φ H dl vs) ∧ Binds K fd ps us
theorem BindE.none {K : PySem.W.Frag} {fd : FuncData} {ps : List Str} (h : Binds K fd ps []) : BindE K fd ps [] := fun n dl e => by
  unfold fillA at e
  split at e
  · cases e; exact ⟨[], [], .nil, fun _ _ => .nil, h⟩
  · split at e
    · rename_i c
      simp at c
      omega
    · cases e
section
variable {X : Cx} {F : Ca} {fu : Nat} {a b c e : Expr} {ca cb cc : CE} {es : List Expr} {cs : CEs} {pos p : Pos}
theorem run_fnD {k : Nat} {f : Addr} {fd : FuncData} {ps : List Str} {sp : Sp} {pins : List (Addr × Obj)} {σ : L2.St} {H : Hp} {s : Shared} {Q : VK} {us du : List Value} {vs dv : List V}
    (G : FnG X.prog X.w X.K X.mg X.base k f fd ps sp) (hr : Room k X.A) (hg : X.A.guards = some []) (hb : Binds X.K fd ps du) (rd : Vals dv du) (I : Inv X pins σ H s) (r : Vals vs us) (h : sp (vs ++ dv) H Q E0) :
    wpAny (model X.prog X.w) X.A (call (.ref f) us) (EP X pins σ Q) X.xe s := by
  have hl : (us ++ du).length = ps.length := by
    rw [← G.len _ _ _ _ h, List.length_append, List.length_append, r.length, rd.length]
  have hbb := hb s us I.kIn hl
  have hc := G.run X.A X.stack s H ⟨us, []⟩ (us ++ du) (vs ++ dv) Q E0 hr hg I.env0 hbb (r.append rd) h
  refine wpAny_call (codeAny_mono hc fun o s' ho => ?_)
  match o, ho with
  | .ok (.ret u), ho => exact I.after ho
  | .ok .next, ho => exact ho.elim
  | .ok .brk, ho => exact ho.elim
  | .ok .cont, ho => exact ho.elim
  | .error e, ho => exact ho.elim
/-- f(e, ..), f a def of the text -/
theorem de_call {k i n : Nat} {f : Addr} {fd : FuncData} {ps : List Str} {ds dl : List PV} {x : Str}
    (G : FnG X.prog X.w X.K X.mg X.base k f fd ps (spE X.K (F i))) (hr : Room k X.A) (hg : X.A.guards = some []) (hgl : Gl X x) (hm : X.mg x = some (.ref f)) (hk : PySem.W.keepIn X.K (.ref f) = true) (hb : BindE X.K fd ps ds) (hf : fillA ps.length ds n = some dl)
    (ha : DA X F fu (a :: es) cs) (hdb : (x == ("__debug__" : Str)) = false) (hp : (a :: es).all isPlain = true) : DE X F fu (.Call (.Name x p) (a :: es) [] pos) (.call i (appL cs dl)) := by
  obtain ⟨dv, du, rd, rdl, hb⟩ := hb n dl hf
  refine ⟨fun pins s σ H Q I ⟨φ, se, h, v, h', r, rs, e, q⟩ => ?_⟩
  simp only [ev, evs_app] at e
  split at e
  · cases e
  · rename_i xs h1 ex
    obtain ⟨⟨ys, h2⟩, ey, e2⟩ := Option.map_eq_some_iff.mp ex
    cases e2
    have args : tA X.K (evs F fu cs) σ H (fun vs H1 => spE X.K (F i) (vs ++ dv) H1 Q E0) := ⟨φ, se, h, _, _, r, rs, ey, fun φ1 H1 vs e1 r1 rv => ⟨φ1, _, _, v, h', r1, rv.append (rdl _ _), e, q.later e1⟩⟩
    rw [List.all_cons, Bool.and_eq_true] at hp
    refine wpAny_Call_Name_kw (ld_glob I hgl hm ?_ hdb)
    refine PySem.W.callWith_K (h₀ := X.base) I.ok.mod.kin hk (thn (ha.run pos pins s σ H _ I args) fun us s1 ⟨vs, H1, I1, r1, z⟩ => ⟨I1.kIn, ?_⟩) (star_plain hp.1) (back_plain hp.2)
    exact run_fnD G hr hg hb rd I1 r1 z
theorem de_call0 {k i n : Nat} {f : Addr} {fd : FuncData} {ps : List Str} {ds dl : List PV} {x : Str}
    (G : FnG X.prog X.w X.K X.mg X.base k f fd ps (spE X.K (F i))) (hr : Room k X.A) (hg : X.A.guards = some []) (hgl : Gl X x) (hm : X.mg x = some (.ref f)) (hk : PySem.W.keepIn X.K (.ref f) = true) (hb : BindE X.K fd ps ds) (hf : fillA ps.length ds n = some dl)
    (hdb : (x == ("__debug__" : Str)) = false) : DE X F fu (.Call (.Name x p) [] [] pos) (.call i (appL .nil dl)) := by
  obtain ⟨dv, du, rd, rdl, hb⟩ := hb n dl hf
  refine ⟨fun pins s σ H Q I ⟨φ, se, h, v, h', r, rs, e, q⟩ => ?_⟩
  simp only [ev, appL, evs_lits] at e
  refine wpAny_Call_Name_kw (ld_glob I hgl hm ?_ hdb)
  refine PySem.W.callWith_K0 I.kIn hk ?_
  exact run_fnD (us := []) (vs := []) G hr hg hb rd I .nil ⟨φ, dl, h, v, h', r, rdl _ _, e, q⟩
end
section
variable {X : Cx} {F : Ca} {fu : Nat} {a b c e : Expr} {ca cb cc : CE} {es : List Expr} {cs : CEs} {pos p : Pos}
/-- f(e, ..), f a built-in -/
theorem de_bi {bi : Bi} {r : List V → Hp → VK → Prop} (ho : CallR X (biF bi) r) (hb : ArOk X.K r (opBi bi)) (hgl : Gl X (biN bi)) (hm : X.mg (biN bi) = none) (ha : DA X F fu (a :: es) cs) (hp : (a :: es).all isPlain = true) :
    DE X F fu (.Call (.Name (biN bi) p) (a :: es) [] pos) (.bi bi cs) := by
  rw [List.all_cons, Bool.and_eq_true] at hp
  have p1 : ∀ t', (∀ σ H Q, tE X.K (ev F fu (.bi bi cs)) σ H Q → t' σ H Q) → PE X (.Call (.Name (biN bi) p) (a :: es) [] pos) t' → DE X F fu (.Call (.Name (biN bi) p) (a :: es) [] pos) (.bi bi cs) := fun t' f z => weakE z f
  have p2 : ∀ σ H Q, tE X.K (ev F fu (.bi bi cs)) σ H Q → tCB r (tA X.K (evs F fu cs)) σ H Q := fun σ H Q ⟨φ, se, h, v, h', r, rs, e, f⟩ => by
    simp only [ev] at e
    split at e
    · cases e
    · rename_i xs h1 ex
      exact ⟨φ, se, h, xs, h1, r, rs, ex, fun φ1 H1 vs e1 r1 rv => hb φ1 H1 h1 xs vs v h' Q r1 rv e (f.later e1)⟩
  cases bi
  all_goals first
    | exact p1 _ p2 (pe_callB ho hgl hm (bi_boot _) ha (by decide) (by decide) (star_plain hp.1) (back_plain hp.2))
    | exact p1 _ p2 (pe_callTy ho hgl hm (bi_boot _) ha (by decide) (by decide) (star_plain hp.1) (back_plain hp.2))
/-- lcm -/
def rLcm : List V → Hp → VK → Prop := fun vs H Q => ∃ a b : Int, vs = [.int a, .int b] ∧ a.natAbs ≤ 1000000 ∧ b.natAbs ≤ 1000000 ∧ Q (.int ((Nat.lcm a.natAbs b.natAbs : Nat) : Int)) H
theorem cr_lcm : CallR X (.builtin "math.lcm") rLcm := by
  intro pins s σ H vs us Q I r h
  obtain ⟨a, b, rfl, ha, hb, q⟩ := h
  obtain ⟨t, u, rfl⟩ := Vals.int2 r
  have e1 : Nat.lcm 1 a.natAbs = a.natAbs := by simp [Nat.lcm]
  have le : Nat.lcm a.natAbs b.natAbs ≤ 1000000 * 1000000 := by
    have : Nat.lcm a.natAbs b.natAbs ≤ a.natAbs * b.natAbs := by
      unfold Nat.lcm
      exact Nat.div_le_self _ _
    exact Nat.le_trans this (Nat.mul_le_mul ha hb)
  have sz1 : ((Nat.lcm a.natAbs b.natAbs : Nat) : Int).natAbs.log2 < bitsLine := by
    rw [Int.natAbs_natCast]
    by_cases z : Nat.lcm a.natAbs b.natAbs = 0
    · rw [z]; decide
    · have := (Nat.log2_lt z).mpr (show Nat.lcm a.natAbs b.natAbs < 2 ^ 64 by omega)
      have : (64 : Nat) < bitsLine := by decide
      omega
  exact PySem.W.mg_lcm (by omega) (by omega) (by rw [e1]; exact sz1) (by rw [e1]; exact ⟨.int _, H, I.tok _, ⟨_, rfl⟩, q⟩)
def fbI : Fb → String
  | .lcm => "math.lcm"
theorem fb_ok (b : Fb) : ∃ r, CallR X (.builtin (fbI b)) r ∧ ArOk X.K r (opFb b) := by
  cases b with
  | lcm =>
    refine ⟨_, cr_lcm, fun φ H h xs vs z h' Q r rs q f => ?_⟩
    unfold opFb at q
    split at q
    · split at q
      · rename_i c
        cases q
        cases rs with
        | cons r1 rs => cases rs with
          | cons r2 rs =>
            cases rs
            cases r1
            cases r2
            exact ⟨_, _, rfl, c.1, c.2, f.here r (.int _)⟩
      · cases q
    · cases q
theorem de_fb {fb : Fb} {x : Str} {r : List V → Hp → VK → Prop} (ho : CallR X (.builtin (fbI fb)) r) (hb : ArOk X.K r (opFb fb)) (hgl : Gl X x) (hm : X.mg x = some (.builtin (fbI fb))) (ha : DA X F fu (a :: es) cs) (hp : (a :: es).all isPlain = true) (hd : (x == ("__debug__" : Str)) = false) :
    DE X F fu (.Call (.Name x p) (a :: es) [] pos) (.fb fb cs) := by
  rw [List.all_cons, Bool.and_eq_true] at hp
  refine weakE (pe_callBfun ho hgl hm ha hd (star_plain hp.1) (back_plain hp.2)) fun σ H Q ⟨φ, se, h, v, h', r, rs, e, f⟩ => ?_
  simp only [ev] at e
  split at e
  · cases e
  · rename_i xs h1 ex
    exact ⟨φ, se, h, xs, h1, r, rs, ex, fun φ1 H1 vs e1 r1 rv => hb φ1 H1 h1 xs vs v h' Q r1 rv e (f.later e1)⟩
def tyN : Ty → Str
  | .int => "int" | .bool => "bool" | .str => "str" | .tup => "tuple" | .lst => "list" | .dct => "dict"
def tyI : Ty → String
  | .int => "int" | .bool => "bool" | .str => "str" | .tup => "tuple" | .lst => "list" | .dct => "dict"
theorem ty_boot (t : Ty) : bootBuiltins (tyN t) = some (.type (tyI t)) := by cases t <;> decide +kernel
/-- a value's own class -/
theorem isTy_ok {K : PySem.W.Frag} {φ : List Addr} {H : Hp} {h : EH} {t : Ty} {x : PV} {v : V} {b : Bool} (r : Rep K φ H h) (rv : RV K φ H x v) (e : isTy h t x = some b) : ∃ T, TyX K H v T ∧ PySem.W.kitOne K T (.type (tyI t)) = some b := by
  cases rv with
  | non => cases e; exact ⟨_, .base .non, by cases t <;> exact kit_ty (by decide +kernel)⟩
  | bl b => cases e; exact ⟨_, .base (.bl b), by cases t <;> exact kit_ty (by decide +kernel)⟩
  | int b => cases e; exact ⟨_, .base (.int b), by cases t <;> exact kit_ty (by decide +kernel)⟩
  | str b => cases e; exact ⟨_, .base (.str b), by cases t <;> exact kit_ty (by decide +kernel)⟩
  | tup q ts =>
    cases e
    rcases q with (q | ⟨o, q⟩) | ⟨o, its, n, q1, q2, _⟩
    · exact ⟨_, .base (.tup q), by cases t <;> exact kit_ty (by decide +kernel)⟩
    · exact ⟨_, .fTuple q, by cases t <;> exact kit_ty (by decide +kernel)⟩
    · exact ⟨_, .kTuple q1 q2, by cases t <;> exact kit_ty (by decide +kernel)⟩
  | fl q ts =>
    cases e
    rcases q with ⟨o, q⟩ | ⟨o, its, n, q1, q2, _⟩
    · exact ⟨_, .base (.frz q), by cases t <;> exact kit_ty (by decide +kernel)⟩
    · exact ⟨_, .kList q1 q2, by cases t <;> exact kit_ty (by decide +kernel)⟩
  | @ref n a q =>
    simp only [isTy] at e
    split at e
    · rename_i xs eo
      cases e
      obtain ⟨vs, h1, _⟩ := r.ob _ _ _ q eo
      exact ⟨_, .base (.lst h1), by cases t <;> exact kit_ty (by decide +kernel)⟩
    · rename_i xs eo
      cases e
      obtain ⟨vs, h1, _⟩ := r.ob _ _ _ q eo
      exact ⟨_, .base (.dK h1), by cases t <;> exact kit_ty (by decide +kernel)⟩
    · rename_i xs eo
      cases e
      obtain ⟨o, vs, h1, _⟩ := r.ob _ _ _ q eo
      exact ⟨_, .fDict h1, by cases t <;> exact kit_ty (by decide +kernel)⟩
    · cases e
    · cases e
/-- isinstance(e, T) -/
theorem de_isI {t : Ty} {pt : Pos} (hgl : Gl X "isinstance") (hm : X.mg "isinstance" = none) (hgt : Gl X (tyN t)) (hmt : X.mg (tyN t) = none) (ha : DE X F fu a ca) (hp : isPlain a = true) :
    DE X F fu (.Call (.Name "isinstance" p) [a, .Name (tyN t) pt] [] pos) (.isI t ca) := by
  have pT : PE X (.Name (tyN t) pt) (tC (.ty (tyI t))) := by
    cases t <;> exact pe_bltn hgt hmt (ty_boot _) rfl (by decide) (by decide)
  have pp : isPlain (Expr.Name (tyN t) pt) = true := rfl
  refine weakE (pe_callB call_isi hgl hm (by decide +kernel) (pa_cons ha (pa_cons pT pa_nil) (star_plain hp)) (by decide) (by decide) (star_plain hp) (back_plain (by simpa using pp))) fun σ H Q ⟨φ, se, h, v, h', r, rs, e, f⟩ => ?_
  simp only [ev] at e
  split at e
  · cases e
  · rename_i x h1 ex
    split at e
    · cases e
    · rename_i b eb
      cases e
      refine ⟨φ, se, h, x, _, r, rs, ex, fun φ1 H1 x' e1 r1 rx => ?_⟩
      obtain ⟨T, t1, t2⟩ := isTy_ok r1 rx eb
      exact ⟨x', _, T, _, b, rfl, .ty _, t1, t2, f φ1 H1 _ e1 r1 (.bl _)⟩
/-- D[e], D a dict of the text's, its keys texts -/
theorem de_kix {x : Str} {kvs : List (Str × PV)} {px : Pos} {q : Addr} (hgl : Gl X x) (hm : X.mg x = some (.ref q)) (hk : ∀ z v, kvs.lookup z = some v → ∃ w, KDct X.K X.w q z w ∧ ∀ φ H, RV X.K φ H v w) (hd : (x == ("__debug__" : Str)) = false) (hb : DE X F fu b cb) (hs : PlainIx b) :
    DE X F fu (.Subscript (.Name x px) b pos) (.kix kvs cb) := by
  refine weakE (pe_ix ix_kdict (pe_glob (v := .ref q) hgl hm rfl hd) hb hs) fun σ H Q ⟨φ, se, h, v, h', r, rs, e, f⟩ => ?_
  simp only [ev] at e
  split at e
  · rename_i z h1 ez
    split at e
    · rename_i v0 ev0
      cases e
      refine ⟨φ, se, h, _, _, r, rs, ez, fun φ1 H1 x' e1 r1 rx => ?_⟩
      cases rx
      obtain ⟨w, k1, k2⟩ := hk _ _ ev0
      exact ⟨q, z, w, rfl, rfl, k1, f φ1 H1 _ e1 r1 (k2 _ _)⟩
    · cases e
  · cases e
theorem me_facts (m : Me) : PlainAttrs (meT m) ∧ Slot (meT m) (meN m) (meI m) ∧ typeOf (.builtin (meI m)) = pure (.type "method_descriptor") := by
  cases m with
  | append => exact ⟨PySem.F.plainAttrs_list, PySem.F.slot_list_append, PySem.F.type_list_append⟩
  | pop => exact ⟨PySem.F.plainAttrs_list, PySem.F.slot_list_pop, PySem.F.type_list_pop⟩
  | popAt => exact ⟨PySem.F.plainAttrs_list, PySem.F.slot_list_pop, PySem.F.type_list_pop⟩
  | extend => exact ⟨PySem.F.plainAttrs_list, PySem.F.slot_list_extend, PySem.F.type_list_extend⟩
  | index => exact ⟨PySem.F.plainAttrs_list, PySem.F.slot_list_index, PySem.F.type_list_index⟩
  | get1 => exact ⟨PySem.F.plainAttrs_dict, PySem.F.slot_dict_get, PySem.F.type_dict_get⟩
  | get2 => exact ⟨PySem.F.plainAttrs_dict, PySem.F.slot_dict_get, PySem.F.type_dict_get⟩
  | dpop1 => exact ⟨PySem.F.plainAttrs_dict, PySem.F.slot_dict_pop, PySem.F.type_dict_pop⟩
  | dpop2 => exact ⟨PySem.F.plainAttrs_dict, PySem.F.slot_dict_pop, PySem.F.type_dict_pop⟩
  | dsetd => exact ⟨PySem.F.plainAttrs_dict, PySem.F.slot_dict_setdefault, PySem.F.type_dict_setdefault⟩
/-- o.m(e, ..), m a method of a list, of a dict -/
theorem de_meth0 {m : Me} {apos : Pos} {r : V → List V → Hp → VK → Prop} (hm : MtR X (meI m) r) (hb : MeOk X.K r (opMe m)) (ho : DE X F fu b cb) (hbase : attributeBase b (meN m) X.env (eval b X.env) = eval b X.env)
    (hline : (apos.endLine == pos.line) = true) : DE X F fu (.Call (.Attribute b (meN m) apos) [] [] pos) (.meth m cb .nil) := by
  obtain ⟨f1, f2, f3⟩ := me_facts m
  refine weakE (pe_bm0 f1 f2 f3 hm ho hbase hline) fun σ H Q ⟨φ, se, h, v, h', r, rs, e, f⟩ => ?_
  simp only [ev, evs] at e
  split at e
  · cases e
  · rename_i x h1 ex
    split at e
    · rename_i hk
      exact ⟨φ, se, h, x, _, r, rs, ex, fun φ1 H1 x' e1 r1 rx => ⟨me_ty r1 rx hk, hb φ1 H1 _ x x' [] [] v h' Q r1 rx .nil e (f.later e1)⟩⟩
    · cases e
theorem de_meth {m : Me} {apos : Pos} {r : V → List V → Hp → VK → Prop} (hm : MtR X (meI m) r) (hb : MeOk X.K r (opMe m)) (ho : DE X F fu b cb) (ha : DA X F fu (a :: es) cs) (hbase : attributeBase b (meN m) X.env (eval b X.env) = eval b X.env)
    (hline : (apos.endLine == pos.line) = true) (hp : (a :: es).all isPlain = true) (h30 : decide (es.length < 29) = true) : DE X F fu (.Call (.Attribute b (meN m) apos) (a :: es) [] pos) (.meth m cb cs) := by
  obtain ⟨f1, f2, f3⟩ := me_facts m
  have hp0 := hp
  rw [List.all_cons, Bool.and_eq_true] at hp
  have few : ((backTo pos (starEach (a :: es) X.env)).all (fun x => !x.1) && (backToKw pos (keywordEach [] X.env)).all (fun x => x.1.isSome) && decide ((a :: es).length + ([] : List Keyword).length + (if ([] : List Keyword).isEmpty then 0 else 1) < 30)) = true := by
    rw [back_all hp0]
    have h30' := of_decide_eq_true h30
    simp only [Bool.true_and, List.length_cons, List.length_nil, List.isEmpty_nil, if_true]
    rw [decide_eq_true (by omega)]
    rfl
  refine weakE (pe_bm f1 f2 f3 hm ho ha hbase few hline (star_plain hp.1) (back_plain hp.2)) fun σ H Q ⟨φ, se, h, v, h', r, rs, e, f⟩ => ?_
  simp only [ev] at e
  split at e
  · cases e
  · rename_i x h1 ex
    split at e
    · rename_i hk
      split at e
      · cases e
      · rename_i xs h2 exs
        exact ⟨φ, se, h, x, h1, r, rs, ex, fun φ1 H1 x' e1 r1 rx => ⟨me_ty r1 rx hk, φ1, se, h1, xs, h2, r1, rs.mono r e1, exs, fun φ2 H2 vs e2 r2 rv =>
          hb φ2 H2 h2 x x' xs vs v h' Q r2 (rx.mono r1 e2) rv e (f.later (e1.trans e2))⟩⟩
    · cases e

/-! ### displays of dicts -/
inductive RPs (K : PySem.W.Frag) (φ : List Addr) (H : Hp) : List PV → List (V × V) → Prop
  | nil : RPs K φ H [] []
  | cons {k v : PV} {k' v' : V} {xs : List PV} {ws : List (V × V)} : RV K φ H k k' → RV K φ H v v' → RPs K φ H xs ws → RPs K φ H (k :: v :: xs) ((k', v') :: ws)
structure DP (X : Cx) (F : Ca) (fu : Nat) (pos : Pos) (keys : List (Option Expr)) (values : List Expr) (cs : CEs) : Prop where
  ex : ∃ trs, PPs X pos keys values trs ∧ ∀ σ H (Q : List (V × V) → Hp → Prop) φ se h xs h', Rep X.K φ H h → RS X.K φ H se σ → evs F fu cs se h = some (xs, h') →
    (∀ φ' H' ws, Ext φ H φ' H' → Rep X.K φ' H' h' → RPs X.K φ' H' xs ws → Q ws H') → tPairs trs σ H Q
  all : keys.all (·.isSome) = true
  len : keys.length = values.length
theorem dp_nil : DP X F fu pos [] [] .nil := by
  refine ⟨⟨[], pps_nil, fun σ H Q φ se h xs h' r rs e f => ?_⟩, rfl, rfl⟩
  simp only [evs] at e
  cases e
  exact f φ H [] (Ext.refl _ _) r .nil
theorem dp_cons {ks : List (Option Expr)} {vs : List Expr} (hk : DE X F fu a ca) (hv : DE X F fu b cb) (hr : DP X F fu pos ks vs cs) : DP X F fu pos (some a :: ks) (b :: vs) (.cons ca (.cons cb cs)) := by
  obtain ⟨⟨trs, p, q⟩, h1, h2⟩ := hr
  refine ⟨⟨_, pps_cons hk hv p, fun σ H Q φ se h xs h' r rs e f => ?_⟩, by simpa using h1, by simpa using h2⟩
  simp only [evs] at e
  split at e
  · cases e
  · rename_i x h1 ex
    split at e
    · cases e
    · rename_i ys h2 ey
      split at ey
      · cases ey
      · rename_i y h3 e3
        split at ey
        · cases ey
        · rename_i zs h4 e4
          cases ey
          cases e
          exact ⟨φ, se, h, x, h1, r, rs, ex, fun φ1 H1 x' e1 r1 rx => ⟨φ1, se, h1, y, h3, r1, rs.mono r e1, e3, fun φ2 H2 y' e2 r2 ry =>
            q σ H2 _ φ2 se h3 zs _ r2 (rs.mono r (e1.trans e2)) e4 fun φ3 H3 ws e5 r3 rw' => f φ3 H3 _ (e1.trans (e2.trans e5)) r3 (.cons (rx.mono r1 (e2.trans e5)) (ry.mono r2 e5) rw')⟩⟩
theorem pairUp_ok {K : PySem.W.Frag} {φ : List Addr} {H : Hp} : ∀ {xs : List PV} {ws : List (V × V)} {kvs : List (PV × PV)}, RPs K φ H xs ws → pairUp xs = some kvs → ∃ vs, ws = vs.map (fun kv => (kV kv.1, kv.2)) ∧ RKs K φ H kvs vs
  | _, _, kvs, .nil, e => by cases e; exact ⟨[], rfl, .nil⟩
  | k :: v :: xs, _, kvs, .cons r1 r2 t, e => by
    simp only [pairUp] at e
    split at e
    · rename_i j q hk hq
      cases e
      obtain ⟨vs, rfl, z⟩ := pairUp_ok t hq
      exact ⟨(j, _) :: vs, by rw [keyOf_V r1 hk]; rfl, .cons hk r2 z⟩
    · cases e
theorem de_dict0 : DE X F fu (.Dict [] [] pos) (.dict .nil) := by
  refine weakE pe_dnewK fun σ H Q ⟨φ, se, h, v, h', r, rs, e, f⟩ => ?_
  simp only [ev, evs, pairUp, new, dmerge] at e
  cases e
  intro p hp
  exact f.newDict r .nil hp
theorem de_dict {ks : List (Option Expr)} {vs : List Expr} (h : DP X F fu pos ks vs cs) (h0 : ks ≠ []) (h15 : ks.length ≤ 15) : DE X F fu (.Dict ks vs pos) (.dict cs) := by
  obtain ⟨⟨trs, p, q⟩, h1, h2⟩ := h
  refine weakE (pe_disp p h1 h2 h0 h15) fun σ H Q ⟨φ, se, h, v, h', r, rs, e, f⟩ => ?_
  simp only [ev] at e
  split at e
  · cases e
  · rename_i xs h3 exs
    split at e
    · cases e
    · rename_i kvs ek
      split at e
      · rename_i hz
        unfold new at e
        cases e
        intro p hp
        refine q σ _ _ φ se h xs _ (r.put hp) (rs.mono r (Ext.put hp)) exs fun φ' H' ws e' r' rp => ?_
        obtain ⟨g1, g2⟩ := e'.old p _ upd_same (r.free hp)
        obtain ⟨vs, rfl, rk⟩ := pairUp_ok rp ek
        refine ⟨g1, vs, rfl, by rw [← rk.length]; exact hz, ?_⟩
        have nt : ∀ xs, H' p ≠ some (.tup xs) := fun xs z => by rw [g1] at z; cases z
        have nf : ∀ o u, H' p ≠ some (.frz o u) := fun o u z => by rw [g1] at z; cases z
        refine f (φ' ++ [p]) _ (.ref p) ⟨?_, fun a o ea na => ?_, fun a o u ea => ?_⟩ ((r'.other g2 nt nf).newAt g2 ⟨_, upd_same, ?_⟩) (.ref (by rw [← r'.len]; simp))
        · obtain ⟨ψ, eψ⟩ := e'.pre
          exact ⟨ψ ++ [p], by rw [eψ, List.append_assoc]⟩
        · have ne : a ≠ p := by intro z; subst z; rw [hp] at ea; cases ea
          obtain ⟨k1, k2⟩ := e'.old a o (by rw [upd_ne ne]; exact ea) na
          refine ⟨by rw [upd_ne ne]; exact k1, ?_⟩
          simp only [List.mem_append, List.mem_singleton, not_or]
          exact ⟨k2, ne⟩
        · have ne : a ≠ p := by intro z; subst z; rw [hp] at ea; cases ea
          rw [upd_ne ne]
          exact e'.fz a o u (by rw [upd_ne ne]; exact ea)
        · have x0 : Ext0 φ' H' (φ' ++ [p]) (upd H' p (.dK (mergeK [] vs))) := by
            obtain ⟨_, t1, t2⟩ := Ext0.other (φ := φ') (ob := .dK (mergeK [] vs)) nt nf
            exact ⟨⟨[p], rfl⟩, t1, t2⟩
          exact dmerge_ok (rk.ext x0) .nil
      · cases e
end
end EV

set_option Elab.async false
set_option linter.all false
set_option maxRecDepth 100000
set_option maxHeartbeats 4000000
/-! EV9: what is walked. -/
namespace EV
open PySem PySem.Spec L2

/-- how the evaluator's walk stands beside the layer's -/
def ItOk (K : PySem.W.Frag) (φ0 : List Addr) (H0 : Hp) (it : Itr) (J : It) : Prop :=
  ∀ φ H h i, Ext0 φ0 H0 φ H → Rep K φ H h → (item it i h = some none → J.stop i H) ∧
    ∀ p, item it i h = some (some p) → J.go i H ∧ ∀ x H', J.yld i H x H' → Ext φ H φ H' ∧ Rep K φ H' h ∧ RV K φ H' p x
def tI (K : PySem.W.Frag) (m : Sg → EH → Option (Itr × EH)) : TI := fun σ H R => ∃ φ se h it h', Rep K φ H h ∧ RS K φ H se σ ∧ m se h = some (it, h') ∧
  ∀ φ' H' J, Ext φ H φ' H' → Rep K φ' H' h' → ItOk K φ' H' it J → R J H'

section
variable {K : PySem.W.Frag} {φ : List Addr} {H : Hp} {h : EH}

theorem noneAt {α : Type} {xs : List α} {i : Nat} (e : xs[i]? = none) : xs.length ≤ i := List.getElem?_eq_none_iff.mp e
/-- a tuple, a list that is not written -/
theorem it_tup {ps : List PV} {vs : List V} {a : Addr} (r : Rep K φ H h) (t : SqT K H a vs) (q : RVs K φ H ps vs) : ItOk K φ H (.st ps) (Itt K a) := by
  intro φ1 H1 h1 i e r1
  have t1 := SqT.ext e t
  have q1 := RVs.ext e _ _ q
  refine ⟨fun z => ⟨vs, t1, by rw [← q1.length]; exact noneAt (Option.some.inj z)⟩, fun p z => ?_⟩
  obtain ⟨v, e1, e2⟩ := q1.get (Option.some.inj z)
  refine ⟨⟨vs, v, t1, e1⟩, fun x H' ⟨eh, y⟩ => ?_⟩
  subst eh
  have := y vs t1
  rw [e1] at this
  cases this
  exact ⟨Ext.refl _ _, r1, e2⟩
theorem RKs.get {K : PySem.W.Frag} {φ : List Addr} {H : Hp} {ps : List (PV × PV)} {vs : List (Key × V)} (q : RKs K φ H ps vs) : ∀ {i : Nat} {p : PV × PV}, ps[i]? = some p → ∃ k v, vs[i]? = some (k, v) ∧ RV K φ H p.1 (kV k) ∧ RV K φ H p.2 v := by
  induction q with
  | nil => intro i p e; simp at e
  | @cons p k x v ps vs e rx t ih =>
    intro i z ez
    cases i with
    | zero =>
      simp at ez
      subst ez
      refine ⟨k, v, rfl, ?_, rx⟩
      cases p <;> simp only [keyOf] at e <;> first | (cases e; done) | skip
      · cases e; exact .int _
      · cases e; exact .str _
    | succ i =>
      obtain ⟨k2, v2, a, b, c⟩ := ih (i := i) (by simpa using ez)
      exact ⟨k2, v2, by simpa using a, b, c⟩
theorem it_keys {ps : List (PV × PV)} {vs : List (Key × V)} {d : Addr} {o : Obj} (r : Rep K φ H h) (t : H d = some (.frz o (.dK vs))) (q : RKs K φ H ps vs) : ItOk K φ H (.st (ps.map (·.1))) (Itk d o vs) := by
  intro φ1 H1 h1 i e r1
  have t1 := e.frz _ _ _ t
  have q1 := q.ext e
  refine ⟨fun z => ⟨t1, ?_⟩, fun p z => ?_⟩
  · have z := noneAt (Option.some.inj z)
    rw [List.length_map, q1.length] at z
    exact z
  · have z := Option.some.inj z
    rw [List.getElem?_map] at z
    obtain ⟨p, zp, rfl⟩ := Option.map_eq_some_iff.mp z
    obtain ⟨k, v, a, b, c⟩ := q1.get zp
    refine ⟨⟨t1, (List.getElem?_eq_some_iff.mp a).1⟩, fun x H' ⟨eh, k2, v2, y, ex⟩ => ?_⟩
    subst eh ex
    rw [a] at y
    cases y
    exact ⟨Ext.refl _ _, r1, b⟩
theorem it_items {ps : List (PV × PV)} {vs : List (Key × V)} {d : Addr} {o : Obj} (r : Rep K φ H h) (t : H d = some (.frz o (.dK vs))) (q : RKs K φ H ps vs) : ItOk K φ H (.st (ps.map fun p => .tup [p.1, p.2])) (Iti d o vs) := by
  intro φ1 H1 h1 i e r1
  have t1 := e.frz _ _ _ t
  have q1 := q.ext e
  refine ⟨fun z => ⟨t1, ?_⟩, fun p z => ?_⟩
  · have z := noneAt (Option.some.inj z)
    rw [List.length_map, q1.length] at z
    exact z
  · have z := Option.some.inj z
    rw [List.getElem?_map] at z
    obtain ⟨p, zp, rfl⟩ := Option.map_eq_some_iff.mp z
    obtain ⟨k, v, a, b, c⟩ := q1.get zp
    refine ⟨⟨t1, (List.getElem?_eq_some_iff.mp a).1⟩, fun x H' ⟨T, k2, v2, y, ex, hT, eh⟩ => ?_⟩
    subst eh ex
    rw [a] at y
    cases y
    exact ⟨Ext.put hT, r1.put hT, .tup (SqT.of upd_same) (.cons (b.mono r1 (Ext.put hT)) (.cons (c.mono r1 (Ext.put hT)) .nil))⟩
theorem it_fl {ps : List PV} {vs : List V} {a : Addr} (r : Rep K φ H h) (t : FzL K H a vs) (q : RVs K φ H ps vs) : ItOk K φ H (.st ps) (Itl K a) := by
  intro φ1 H1 h1 i e r1
  have t1 := (FzL.ext e t).sq
  have q1 := RVs.ext e _ _ q
  refine ⟨fun z => ⟨vs, t1, by rw [← q1.length]; exact noneAt (Option.some.inj z)⟩, fun p z => ?_⟩
  obtain ⟨v, e1, e2⟩ := q1.get (Option.some.inj z)
  refine ⟨⟨vs, v, t1, e1⟩, fun x H' ⟨eh, y⟩ => ?_⟩
  subst eh
  have := y vs t1
  rw [e1] at this
  cases this
  exact ⟨Ext.refl _ _, r1, e2⟩
/-- a list that may change -/
theorem it_dy {n : Nat} {a : Addr} (e0 : φ[n]? = some a) : ItOk K φ H (.dy n) (Itl K a) := by
  intro φ1 H1 h1 i e r1
  have e1 := e.get e0
  refine ⟨fun z => ?_, fun p z => ?_⟩
  · simp only [item] at z
    split at z
    · rename_i l
      obtain ⟨vs, a1, a2⟩ := r1.lst e1 l
      exact ⟨vs, SqL.of a1, by rw [← a2.length]; exact noneAt (Option.some.inj z)⟩
    · cases z
  · simp only [item] at z
    split at z
    · rename_i l
      obtain ⟨vs, a1, a2⟩ := r1.lst e1 l
      obtain ⟨v, b1, b2⟩ := a2.get (Option.some.inj z)
      refine ⟨⟨vs, v, SqL.of a1, b1⟩, fun x H' ⟨eh, y⟩ => ?_⟩
      subst eh
      have := y vs (SqL.of a1)
      rw [b1] at this
      cases this
      exact ⟨Ext.refl _ _, r1, b2⟩
    · cases z
theorem rangeL_get {st : Int} : ∀ {n : Nat} {lo : Int} {i : Nat}, (rangeL lo st n)[i]? = if i < n then some (.int (lo + i * st)) else none
  | 0, lo, i => by simp [rangeL]
  | n + 1, lo, 0 => by simp [rangeL]
  | n + 1, lo, i + 1 => by
    rw [rangeL, List.getElem?_cons_succ, rangeL_get]
    have e : lo + st + (i : Int) * st = lo + ((i + 1 : Nat) : Int) * st := by
      rw [Int.natCast_add, Int.add_mul]; simp; omega
    rw [e]
    by_cases c : i < n
    · rw [if_pos c, if_pos (by omega)]
    · rw [if_neg c, if_neg (by omega)]
theorem it_rngC {lo c : Int} {n : Nat} : ItOk K φ H (.st (rangeL lo c n)) (Itc lo c n) := by
  intro φ1 H1 h1 i e r1
  refine ⟨fun z => ?_, fun p z => ?_⟩
  · have z := Option.some.inj z
    rw [rangeL_get] at z
    split at z
    · cases z
    · show n ≤ i; omega
  · have z := Option.some.inj z
    rw [rangeL_get] at z
    split at z
    · cases z
      refine ⟨by assumption, fun x H' ⟨eh, y⟩ => ?_⟩
      subst eh y
      exact ⟨Ext.refl _ _, r1, .int _⟩
    · cases z
theorem it_rng {lo : Int} {n : Nat} : ItOk K φ H (.st (rangeL lo 1 n)) (L2.Itr lo n) := by
  intro φ1 H1 h1 i e r1
  refine ⟨fun z => ?_, fun p z => ?_⟩
  · have z := Option.some.inj z
    rw [rangeL_get] at z
    split at z
    · cases z
    · show n ≤ i; omega
  · have z := Option.some.inj z
    rw [rangeL_get] at z
    split at z
    · cases z
      refine ⟨by assumption, fun x H' ⟨eh, y⟩ => ?_⟩
      subst eh y
      rw [Int.mul_one]
      exact ⟨Ext.refl _ _, r1, .int _⟩
    · cases z
theorem it_str {z : Str} : ItOk K φ H (.st (z.cps.toList.map fun c => .str ⟨#[c]⟩)) (Its z) := by
  intro φ1 H1 h1 i e r1
  refine ⟨fun q => ?_, fun p q => ?_⟩
  · have q := noneAt (Option.some.inj q)
    show z.cps.size ≤ i
    simpa using q
  · have q := Option.some.inj q
    rw [List.getElem?_map] at q
    obtain ⟨c, q1, rfl⟩ := Option.map_eq_some_iff.mp q
    have hlt : i < z.cps.size := by
      have := (List.getElem?_eq_some_iff.mp q1).1
      simpa using this
    refine ⟨hlt, fun x H' ⟨eh, d, y1, y2⟩ => ?_⟩
    subst eh y2
    rw [Array.getElem?_toList, y1] at q1
    cases q1
    exact ⟨Ext.refl _ _, r1, .str _⟩
/-- places and items -/
theorem it_dyE {n : Nat} {a : Addr} (e0 : φ[n]? = some a) : ItOk K φ H (.dyE n) (Ite K a) := by
  intro φ1 H1 h1 i e r1
  have e1 := e.get e0
  refine ⟨fun z => ?_, fun p z => ?_⟩
  · simp only [item] at z
    split at z
    · rename_i l
      obtain ⟨vs, a1, a2⟩ := r1.lst e1 l
      refine ⟨vs, SqL.of a1, ?_⟩
      rw [← a2.length]
      exact noneAt (by simpa using Option.some.inj z)
    · cases z
  · simp only [item] at z
    split at z
    · rename_i l
      obtain ⟨vs, a1, a2⟩ := r1.lst e1 l
      obtain ⟨y, z1, rfl⟩ := Option.map_eq_some_iff.mp (Option.some.inj z)
      obtain ⟨v, b1, b2⟩ := a2.get z1
      refine ⟨⟨vs, v, SqL.of a1, b1⟩, fun x H' ⟨T, w, ex, eT, eh, y⟩ => ?_⟩
      subst ex eh
      have := y vs (SqL.of a1)
      rw [b1] at this
      cases this
      exact ⟨Ext.put eT, r1.put eT, .tup (SqT.of upd_same) (.cons (.int _) (.cons (b2.mono r1 (Ext.put eT)) .nil))⟩
    · cases z
theorem enumL_get : ∀ {ps : List PV} {k i : Nat}, (enumL k ps)[i]? = ps[i]?.map fun x => .tup [.int ((k + i : Nat) : Int), x]
  | [], k, i => by simp [enumL]
  | p :: ps, k, 0 => by simp [enumL]
  | p :: ps, k, i + 1 => by
    rw [enumL, List.getElem?_cons_succ, List.getElem?_cons_succ, enumL_get]
    rw [show k + 1 + i = k + (i + 1) by omega]
theorem it_flE {ps : List PV} {vs : List V} {a : Addr} (r : Rep K φ H h) (t : FzL K H a vs) (q : RVs K φ H ps vs) : ItOk K φ H (.st (enumL 0 ps)) (Ite K a) := by
  intro φ1 H1 h1 i e r1
  have t1 := (FzL.ext e t).sq
  have q1 := RVs.ext e _ _ q
  refine ⟨fun z => ?_, fun p z => ?_⟩
  · have z := Option.some.inj z
    rw [enumL_get] at z
    exact ⟨vs, t1, by rw [← q1.length]; exact noneAt (by simpa using z)⟩
  · have z := Option.some.inj z
    rw [enumL_get] at z
    obtain ⟨y, z1, rfl⟩ := Option.map_eq_some_iff.mp z
    obtain ⟨v, b1, b2⟩ := q1.get z1
    refine ⟨⟨vs, v, t1, b1⟩, fun x H' ⟨T, w, ex, eT, eh, y⟩ => ?_⟩
    subst ex eh
    have := y vs t1
    rw [b1] at this
    cases this
    rw [Nat.zero_add]
    exact ⟨Ext.put eT, r1.put eT, .tup (SqT.of upd_same) (.cons (.int _) (.cons (b2.mono r1 (Ext.put eT)) .nil))⟩
/-- places and items of a tuple -/
def Iteu (K : PySem.W.Frag) (a : Addr) : It :=
  ⟨fun i H => ∃ (xs : List V) (x : V), SqT K H a xs ∧ xs[i]? = some x, fun i H v H' => ∃ T x, v = .ref T ∧ H T = none ∧ H' = upd H T (.tup [.int (i : Nat), x]) ∧ ∀ xs, SqT K H a xs → xs[i]? = some x,
    fun i H => ∃ xs : List V, SqT K H a xs ∧ xs.length ≤ i⟩
theorem it_tupE {ps : List PV} {vs : List V} {a : Addr} (r : Rep K φ H h) (t : SqT K H a vs) (q : RVs K φ H ps vs) : ItOk K φ H (.st (enumL 0 ps)) (Iteu K a) := by
  intro φ1 H1 h1 i e r1
  have t1 := SqT.ext e t
  have q1 := RVs.ext e _ _ q
  refine ⟨fun z => ?_, fun p z => ?_⟩
  · have z := Option.some.inj z
    rw [enumL_get] at z
    exact ⟨vs, t1, by rw [← q1.length]; exact noneAt (by simpa using z)⟩
  · have z := Option.some.inj z
    rw [enumL_get] at z
    obtain ⟨y, z1, rfl⟩ := Option.map_eq_some_iff.mp z
    obtain ⟨v, b1, b2⟩ := q1.get z1
    refine ⟨⟨vs, v, t1, b1⟩, fun x H' ⟨T, w, ex, eT, eh, y⟩ => ?_⟩
    subst ex eh
    have := y vs t1
    rw [b1] at this
    cases this
    rw [Nat.zero_add]
    exact ⟨Ext.put eT, r1.put eT, .tup (SqT.of upd_same) (.cons (.int _) (.cons (b2.mono r1 (Ext.put eT)) .nil))⟩
/-! zip -/
def kOf : PV → Bool
  | .tup _ => true
  | _ => false
theorem isLT_k {x : PV} {xs : List PV} {a : Addr} (r : Rep K φ H h) (q : RV K φ H x (.ref a)) (e : isLT h x = some xs) : ∃ vs, SqK (kOf x) K H a vs ∧ RVs K φ H xs vs := by
  cases q with
  | tup t ts => cases e; exact ⟨_, t, ts⟩
  | fl t ts => cases e; exact ⟨_, t.sq, ts⟩
  | ref q =>
    simp only [isLT] at e
    split at e
    · cases e
      rename_i l
      obtain ⟨vs, e1, e2⟩ := r.lst q l
      exact ⟨vs, SqL.of e1, e2⟩
    · cases e
theorem it_zp {st : Bool} {x y : PV} {a b : Addr} {J : It} (r : Rep K φ H h) (qx : RV K φ H x (.ref a)) (qy : RV K φ H y (.ref b))
    (hgo : J.go = (Itm (kOf x) (kOf y) K a b).go) (hyl : J.yld = (Itm (kOf x) (kOf y) K a b).yld)
    (hst : ∀ i H (xs ys : List V), SqK (kOf x) K H a xs → SqK (kOf y) K H b ys → i ≤ xs.length → i ≤ ys.length → (i = xs.length ∨ i = ys.length) → (st = true → i = xs.length ∧ i = ys.length) → J.stop i H) : ItOk K φ H (.zp st x y) J := by
  intro φ1 H1 h1 i e r1
  have qx1 := RV.ext e _ _ qx
  have qy1 := RV.ext e _ _ qy
  cases ex : isLT h1 x with
  | none => exact ⟨fun z => by (simp only [item, ex] at z; cases z), fun p z => by (simp only [item, ex] at z; cases z)⟩
  | some xs =>
    cases ey : isLT h1 y with
    | none => exact ⟨fun z => by (simp only [item, ex, ey] at z; cases z), fun p z => by (simp only [item, ex, ey] at z; cases z)⟩
    | some ys =>
      obtain ⟨vs, t1, t2⟩ := isLT_k r1 qx1 ex
      obtain ⟨ws, u1, u2⟩ := isLT_k r1 qy1 ey
      refine ⟨fun z => ?_, fun p z => ?_⟩
      · have cond : (i ≤ xs.length ∧ i ≤ ys.length ∧ (st = true → i = xs.length ∧ i = ys.length)) ∧ (xs[i]? = none ∨ ys[i]? = none) := by
          simp only [item, ex, ey] at z
          split at z
          · cases z
          · rename_i no
            split at z
            · rename_i c
              refine ⟨c, ?_⟩
              cases e1 : xs[i]? with
              | none => exact .inl rfl
              | some p1 =>
                cases e2 : ys[i]? with
                | none => exact .inr rfl
                | some p2 => exact absurd e2 (no p1 p2 e1)
            · cases z
        obtain ⟨⟨c1, c2, c3⟩, c4⟩ := cond
        refine hst i H1 vs ws t1 u1 (by rw [← t2.length]; exact c1) (by rw [← u2.length]; exact c2) ?_ (by rw [← t2.length, ← u2.length]; exact c3)
        rw [← t2.length, ← u2.length]
        rcases c4 with c | c
        · have := noneAt c
          exact .inl (by omega)
        · have := noneAt c
          exact .inr (by omega)
      · simp only [item, ex, ey] at z
        split at z
        · rename_i p1 p2 g1 g2
          cases z
          obtain ⟨v, b1, b2⟩ := t2.get g1
          obtain ⟨w, d1, d2⟩ := u2.get g2
          refine ⟨by rw [hgo]; exact ⟨vs, ws, v, w, t1, u1, b1, d1⟩, fun x' H' yl => ?_⟩
          rw [hyl] at yl
          obtain ⟨T, v', w', rfl, hT, rfl, f1, f2⟩ := yl
          have f1 := f1 vs t1
          have f2 := f2 ws u1
          rw [b1] at f1
          rw [d1] at f2
          cases f1
          cases f2
          exact ⟨Ext.put hT, r1.put hT, .tup (SqT.of upd_same) (.cons (b2.mono r1 (Ext.put hT)) (.cons (d2.mono r1 (Ext.put hT)) .nil))⟩
        · split at z <;> cases z
theorem isLT_ref {x : PV} {v : V} (q : RV K φ H x v) (e : (isLT h x).isSome = true) : ∃ a, v = .ref a := by
  cases q with
  | tup t ts => exact ⟨_, rfl⟩
  | fl t ts => exact ⟨_, rfl⟩
  | ref q => exact ⟨_, rfl⟩
  | _ => cases e
end

section
variable {X : Cx} {F : Ca} {fu : Nat} {a b c e tg : Expr} {ca cb cc : CE} {es : List Expr} {cs : CEs} {pos p : Pos}
abbrev DI (X : Cx) (F : Ca) (fu : Nat) (tg e : Expr) (c : CI) : Prop := PI X tg e (tI X.K (evI F fu c))
/-- an iterator just laid for the value of an expression -/
theorem di_val (ha : DE X F fu a ca) : DI X F fu tg a (.val ca) := by
  refine ⟨fun pins s σ H R I ⟨φ, se, h, it, h', r, rs, e, f⟩ => ?_⟩
  simp only [evI] at e
  split at e
  · cases e
  · rename_i x h1 ex
    refine thn (ha.run pins s σ H (fun v H1 => ∃ φ1, Ext φ H φ1 H1 ∧ Rep X.K φ1 H1 h1 ∧ RV X.K φ1 H1 x v) I ⟨φ, se, h, x, h1, r, rs, ex, fun φ1 H1 v e1 r1 rv => ⟨φ1, e1, r1, rv⟩⟩) fun v s1 ⟨y, H1, I1, ry, φ1, e1, r1, rx⟩ => ?_
    split at e
    · cases e
      cases rx with
      | tup t q =>
        cases ry
        obtain ⟨its, rv, p', hz⟩ := I1.tuple t
        refine wpAny_pyIter_tuple (show s1.heap.IsTuple _ its.toArray from p') ?_
        exact pi_one (tk := s1.toks) I1 _ (turn_tuple _ _) ⟨_, Heap.get?_push_size _ rfl, rfl, rfl⟩ (f φ1 H1 _ e1 r1 (it_tup r1 t q))
    · cases e
      cases rx with
      | fl t q =>
        cases ry
        obtain ⟨its, rv, p', hz⟩ := I1.list t.sq
        refine wpAny_pyIter_list p'.isList ?_
        exact pi_one (tk := s1.toks) I1 _ (turn_list _ _) ⟨_, Heap.get?_push_size _ rfl, rfl, rfl⟩ (f φ1 H1 _ e1 r1 (it_fl r1 t q))
    · split at e
      · rename_i l
        cases e
        cases rx with
        | ref q =>
          cases ry
          obtain ⟨vs, a1, a2⟩ := r1.lst q l
          obtain ⟨its, rv, p', hz⟩ := I1.list (SqL.of a1)
          refine wpAny_pyIter_list p'.isList ?_
          exact pi_one (tk := s1.toks) I1 _ (turn_list _ _) ⟨_, Heap.get?_push_size _ rfl, rfl, rfl⟩ (f φ1 H1 _ e1 r1 (it_dy q))
      · rename_i l
        cases e
        cases rx with
        | ref q =>
          cases ry
          obtain ⟨vs, a1, a2⟩ := r1.dict q l
          obtain ⟨od, I2⟩ := I1.lock a1 trivial
          obtain ⟨x2, r2⟩ := r1.freeze (od := od) q a1 a2
          obtain ⟨hs, hgd, hx, es, ep, vs', hdt, hsz, kv, hm⟩ := I2.frzK upd_same
          refine iter_keys hs hgd hx hdt (pi_one (tk := s1.toks) I2 _ (turn_keys _ hdt) ⟨_, Heap.get?_push_size _ rfl, rfl, ?_⟩ (f φ1 _ _ (e1.trans x2) r2 (it_keys r2 upd_same (a2.mono r1 x2))))
          rw [hsz] <;> rfl
      · rename_i l
        cases e
        cases rx with
        | ref q =>
          cases ry
          obtain ⟨o, vs, a1, a2⟩ := r1.fdict q l
          obtain ⟨hs, hgd, hx, es, ep, vs', hdt, hsz, kv, hm⟩ := I1.frzK a1
          refine iter_keys hs hgd hx hdt (pi_one (tk := s1.toks) I1 _ (turn_keys _ hdt) ⟨_, Heap.get?_push_size _ rfl, rfl, ?_⟩ (f φ1 H1 _ e1 r1 (it_keys r1 a1 a2)))
          rw [hsz] <;> rfl
      · cases e
      · cases e
    · cases e
      cases rx
      obtain ⟨t, rfl⟩ := ry
      rename_i z _
      cases hz : z.cps.all (· < 128)
      · exact wpAny_pyIter_wide hz (pi_one (tk := s1.toks) I1 _ (turn_str _ z t "str_iterator" (.inr rfl)) ⟨_, Heap.get?_push_size _ rfl, rfl, rfl⟩ (f φ1 H1 _ e1 r1 it_str))
      · exact wpAny_pyIter_ascii hz (pi_one (tk := s1.toks) I1 _ (turn_str _ z t "str_ascii_iterator" (.inl rfl)) ⟨_, Heap.get?_push_size _ rfl, rfl, rfl⟩ (f φ1 H1 _ e1 r1 it_str))
    · cases e

/-- the dict that comes is frozen -/
def tLk (td : TE) : TE := fun σ H Q => td σ H fun x H1 => ∃ d, x = .ref d ∧ ((∃ kvs, H1 d = some (.dK kvs) ∧ ∀ od, Q x (upd H1 d (.frz od (.dK kvs)))) ∨ Q x H1)
theorem pe_lk {e : Expr} {td : TE} (he : PE X e td) : PE X e (tLk td) := by
  refine ⟨fun pins s σ H Q I h => thn (he.run pins s σ H _ I h) fun v s1 ⟨x, H1, I1, rx, d, ex, q⟩ => ?_⟩
  rcases q with ⟨kvs, hd, q⟩ | q
  · obtain ⟨od, I2⟩ := I1.lock hd trivial
    exact ⟨x, _, I2, rx, q od⟩
  · exact ⟨x, H1, I1, rx, q⟩
theorem di_items {elts : List Expr} {kk : Nat} {tpos apos cpos : Pos} (ha : DE X F fu a ca) (hbase : attributeBase a "items" X.env (eval a X.env) = eval a X.env) (hline : (apos.endLine == cpos.line) = true) :
    DI X F fu (.Tuple elts kk tpos) (.Call (.Attribute a "items" apos) [] [] cpos) (.items ca) := by
  refine weakI (pi_items (pe_lk ha) hbase hline) fun σ H R ⟨φ, se, h, it, h', r, rs, e, f⟩ => ?_
  simp only [evI] at e
  split at e
  · cases e
  · rename_i x h1 ex
    refine ⟨φ, se, h, x, h1, r, rs, ex, fun φ1 H1 v e1 r1 rv => ?_⟩
    split at e
    · cases rv with
      | ref q =>
        split at e
        · rename_i l
          cases e
          obtain ⟨vs, a1, a2⟩ := r1.dict q l
          refine ⟨_, rfl, .inl ⟨vs, a1, fun od => ?_⟩⟩
          obtain ⟨x2, r2⟩ := r1.freeze (od := od) q a1 a2
          exact ⟨_, od, vs, rfl, upd_same, f φ1 _ _ (e1.trans x2) r2 (it_items r2 upd_same (a2.mono r1 x2))⟩
        · rename_i l
          cases e
          obtain ⟨o, vs, a1, a2⟩ := r1.fdict q l
          exact ⟨_, rfl, .inr ⟨_, o, vs, rfl, a1, f φ1 H1 _ e1 r1 (it_items r1 a1 a2)⟩⟩
        · cases e
    · cases e
theorem di_zip {elts : List Expr} {kk : Nat} {tpos : Pos} (hg : Gl X "zip") (hm : X.mg "zip" = none) (ha : DE X F fu a ca) (hb : DE X F fu b cb) (hpa : isPlain a = true) (hpb : isPlain b = true) : DI X F fu (.Tuple elts kk tpos) (.Call (.Name "zip" p) [a, b] [] pos) (.zip false ca cb) := by
  have hp2 : ([a, b] : List Expr).all isPlain = true := by simp [hpa, hpb]
  refine weakI (pi_zm hg hm (pa_cons ha (pa_cons hb pa_nil (star_plain hpb)) (star_plain hpa)) (star_plain hpa) (back_plain (by simp [hpb]))) fun σ H R ⟨φ, se, h, it, h', r, rs, e, f⟩ => ?_
  simp only [evI] at e
  split at e
  · cases e
  · rename_i x h1 ex
    split at e
    · cases e
    · rename_i y h2 ey
      split at e
      · rename_i hc
        cases e
        refine ⟨φ, se, h, x, h1, r, rs, ex, fun φ1 H1 v e1 r1 rv => ⟨φ1, se, h1, y, _, r1, rs.mono r e1, ey, fun φ2 H2 w e2 r2 rw' => ?_⟩⟩
        have rv2 := rv.mono r1 e2
        obtain ⟨A, rfl⟩ := isLT_ref rv2 hc.1
        obtain ⟨B, rfl⟩ := isLT_ref rw' hc.2
        obtain ⟨xs, exs⟩ := Option.isSome_iff_exists.mp hc.1
        obtain ⟨ys, eys⟩ := Option.isSome_iff_exists.mp hc.2
        obtain ⟨vs, t1, _⟩ := isLT_k r2 rv2 exs
        obtain ⟨ws, t2, _⟩ := isLT_k r2 rw' eys
        exact ⟨kOf x, kOf y, A, B, vs, ws, rfl, t1, t2, f φ2 H2 _ (e1.trans e2) r2 (it_zp r2 rv2 rw' rfl rfl fun i H xs ys q1 q2 l1 l2 l3 _ => ⟨xs, ys, q1, q2, l1, l2, l3⟩)⟩
      · cases e
theorem di_zipN {nm : Str} {tpos : Pos} (hg : Gl X "zip") (hm : X.mg "zip" = none) (ha : DE X F fu a ca) (hb : DE X F fu b cb) (hpa : isPlain a = true) (hpb : isPlain b = true) : DI X F fu (.Name nm tpos) (.Call (.Name "zip" p) [a, b] [] pos) (.zip false ca cb) := by
  have hp2 : ([a, b] : List Expr).all isPlain = true := by simp [hpa, hpb]
  refine weakI (pi_zn hg hm (pa_cons ha (pa_cons hb pa_nil (star_plain hpb)) (star_plain hpa)) (star_plain hpa) (back_plain (by simp [hpb]))) fun σ H R ⟨φ, se, h, it, h', r, rs, e, f⟩ => ?_
  simp only [evI] at e
  split at e
  · cases e
  · rename_i x h1 ex
    split at e
    · cases e
    · rename_i y h2 ey
      split at e
      · rename_i hc
        cases e
        refine ⟨φ, se, h, x, h1, r, rs, ex, fun φ1 H1 v e1 r1 rv => ⟨φ1, se, h1, y, _, r1, rs.mono r e1, ey, fun φ2 H2 w e2 r2 rw' => ?_⟩⟩
        have rv2 := rv.mono r1 e2
        obtain ⟨A, rfl⟩ := isLT_ref rv2 hc.1
        obtain ⟨B, rfl⟩ := isLT_ref rw' hc.2
        obtain ⟨xs, exs⟩ := Option.isSome_iff_exists.mp hc.1
        obtain ⟨ys, eys⟩ := Option.isSome_iff_exists.mp hc.2
        obtain ⟨vs, t1, _⟩ := isLT_k r2 rv2 exs
        obtain ⟨ws, t2, _⟩ := isLT_k r2 rw' eys
        exact ⟨kOf x, kOf y, A, B, vs, ws, rfl, t1, t2, f φ2 H2 _ (e1.trans e2) r2 (it_zp r2 rv2 rw' rfl rfl fun i H xs ys q1 q2 l1 l2 l3 _ => ⟨xs, ys, q1, q2, l1, l2, l3⟩)⟩
      · cases e
theorem di_zipS {elts : List Expr} {kk kf : Nat} {tpos cp kp : Pos} (hg : Gl X "zip") (hm : X.mg "zip" = none) (ha : DE X F fu a ca) (hb : DE X F fu b cb) (hpa : isPlain a = true) (hpb : isPlain b = true) :
    DI X F fu (.Tuple elts kk tpos) (.Call (.Name "zip" p) [a, b] [⟨some "strict", .Constant (.bool true) kf cp, kp⟩] pos) (.zip true ca cb) := by
  refine weakI (pi_zs hg hm (pa_cons ha (pa_cons hb pa_nil (star_plain hpb)) (star_plain hpa)) (star_plain hpa) (back_plain (by simp [hpa, hpb]))) fun σ H R ⟨φ, se, h, it, h', r, rs, e, f⟩ => ?_
  simp only [evI] at e
  split at e
  · cases e
  · rename_i x h1 ex
    split at e
    · cases e
    · rename_i y h2 ey
      split at e
      · rename_i hc
        cases e
        refine ⟨φ, se, h, x, h1, r, rs, ex, fun φ1 H1 v e1 r1 rv => ⟨φ1, se, h1, y, _, r1, rs.mono r e1, ey, fun φ2 H2 w e2 r2 rw' => ?_⟩⟩
        have rv2 := rv.mono r1 e2
        obtain ⟨A, rfl⟩ := isLT_ref rv2 hc.1
        obtain ⟨B, rfl⟩ := isLT_ref rw' hc.2
        obtain ⟨xs, exs⟩ := Option.isSome_iff_exists.mp hc.1
        obtain ⟨ys, eys⟩ := Option.isSome_iff_exists.mp hc.2
        obtain ⟨vs, t1, _⟩ := isLT_k r2 rv2 exs
        obtain ⟨ws, t2, _⟩ := isLT_k r2 rw' eys
        exact ⟨kOf x, kOf y, A, B, vs, ws, rfl, t1, t2, f φ2 H2 _ (e1.trans e2) r2 (it_zp r2 rv2 rw' rfl rfl fun i H xs ys q1 q2 l1 l2 l3 l4 => ⟨xs, ys, q1, q2, l4 rfl⟩)⟩
      · cases e

/-! ranges -/
theorem two62 {i : Int} (h : small62 i = true) : -(2 ^ 62) ≤ i ∧ i < 2 ^ 62 := by
  unfold small62 at h
  simpa using h
theorem rangeOf1 {x : PV} {ys : List PV} (e : rangeOf [x] = some ys) : ∃ j, x = .int j ∧ small62 j = true ∧ ys = rangeL 0 1 j.toNat := by
  cases x <;> simp [rangeOf] at e
  exact ⟨_, rfl, e.1, e.2.symm⟩
theorem rangeOf2 {x y : PV} {ys : List PV} (e : rangeOf [x, y] = some ys) : ∃ i j, x = .int i ∧ y = .int j ∧ small62 i = true ∧ small62 j = true ∧ ys = rangeL i 1 (j - i).toNat := by
  cases x <;> cases y <;> simp [rangeOf] at e
  exact ⟨_, _, rfl, rfl, e.1.1, e.1.2, e.2.symm⟩
theorem rangeOf3 {x y z : PV} {ys : List PV} (e : rangeOf [x, y, z] = some ys) : ∃ i j c, x = .int i ∧ y = .int j ∧ z = .int c ∧
    (c ≠ 0 ∧ c.natAbs < 1073741824 ∧ Builtin.Range.small i j c = true ∧ 0 ≤ Builtin.Range.rangeSize i j c) ∧ ys = rangeL i c (Builtin.Range.rangeSize i j c).toNat := by
  cases x <;> cases y <;> cases z <;> simp [rangeOf] at e
  exact ⟨_, _, _, rfl, rfl, rfl, e.1, e.2.symm⟩
theorem len1 {s : Sg} {h h1 : EH} {xs : List PV} (ex : evs F fu (.cons ca .nil) s h = some (xs, h1)) : ∃ x, xs = [x] := by
  simp only [evs] at ex
  split at ex
  · cases ex
  · cases ex; exact ⟨_, rfl⟩
theorem lenS {s : Sg} {h h1 : EH} {xs : List PV} (ex : evs F fu (.cons ca cs) s h = some (xs, h1)) : ∃ x ys h2, xs = x :: ys ∧ evs F fu cs s h2 = some (ys, h1) := by
  simp only [evs] at ex
  split at ex
  · cases ex
  · split at ex
    · cases ex
    · cases ex; exact ⟨_, _, _, rfl, by assumption⟩
theorem di_rng1 (hg : Gl X "range") (hm : X.mg "range" = none) (ha : DA X F fu [a] (.cons ca .nil)) (hp : isPlain a = true) : DI X F fu tg (.Call (.Name "range" p) [a] [] pos) (.rng (.cons ca .nil)) := by
  refine weakI (pi_range1 hg hm ha (by rw [star_plain hp]; rfl)) fun σ H R ⟨φ, se, h, it, h', r, rs, e, f⟩ => ?_
  simp only [evI] at e
  split at e
  · cases e
  · rename_i xs h1 ex
    refine ⟨φ, se, h, xs, h1, r, rs, ex, fun φ1 H1 vs e1 r1 rv => ?_⟩
    split at e
    · cases e
    · rename_i ys ey
      cases e
      obtain ⟨x, rfl⟩ := len1 ex
      obtain ⟨j, rfl, c, rfl⟩ := rangeOf1 ey
      obtain ⟨v, rfl, rv1⟩ := rv.one
      cases rv1
      have c := two62 c
      exact ⟨_, rfl, c.1, c.2, f φ1 H1 _ e1 r1 it_rng⟩
theorem di_rng2 (hg : Gl X "range") (hm : X.mg "range" = none) (ha : DA X F fu [a, b] (.cons ca (.cons cb .nil))) (hp : isPlain a = true) (hp2 : isPlain b = true) : DI X F fu tg (.Call (.Name "range" p) [a, b] [] pos) (.rng (.cons ca (.cons cb .nil))) := by
  refine weakI (pi_range2 hg hm ha (by rw [star_plain hp, star_plain hp2]; rfl) (by rw [star_plain hp2]; rfl)) fun σ H R ⟨φ, se, h, it, h', r, rs, e, f⟩ => ?_
  simp only [evI] at e
  split at e
  · cases e
  · rename_i xs h1 ex
    refine ⟨φ, se, h, xs, h1, r, rs, ex, fun φ1 H1 vs e1 r1 rv => ?_⟩
    split at e
    · cases e
    · rename_i ys ey
      cases e
      obtain ⟨x, xs, h2, rfl, ex2⟩ := lenS ex
      obtain ⟨y, rfl⟩ := len1 ex2
      obtain ⟨i, j, rfl, rfl, c1, c2, rfl⟩ := rangeOf2 ey
      obtain ⟨v, w, rfl, rv, rw'⟩ := rv.two
      cases rv
      cases rw'
      have c1 := two62 c1
      have c2 := two62 c2
      exact ⟨_, _, rfl, ⟨c1.1, c1.2, c2.1, c2.2⟩, f φ1 H1 _ e1 r1 it_rng⟩
theorem di_rng3 (hg : Gl X "range") (hm : X.mg "range" = none) (ha : DA X F fu [a, b, c] (.cons ca (.cons cb (.cons cc .nil)))) (hp : [a, b, c].all isPlain = true) : DI X F fu tg (.Call (.Name "range" p) [a, b, c] [] pos) (.rng (.cons ca (.cons cb (.cons cc .nil)))) := by
  have hp' := hp
  rw [List.all_cons, Bool.and_eq_true] at hp'
  refine weakI (pi_range3 hg hm ha (star_plain hp'.1) (back_plain hp'.2)) fun σ H R ⟨φ, se, h, it, h', r, rs, e, f⟩ => ?_
  simp only [evI] at e
  split at e
  · cases e
  · rename_i xs h1 ex
    refine ⟨φ, se, h, xs, h1, r, rs, ex, fun φ1 H1 vs e1 r1 rv => ?_⟩
    split at e
    · cases e
    · rename_i ys ey
      cases e
      obtain ⟨x, xs, h2, rfl, ex2⟩ := lenS ex
      obtain ⟨y, xs, h3, rfl, ex3⟩ := lenS ex2
      obtain ⟨z, rfl⟩ := len1 ex3
      obtain ⟨i, j, k, rfl, rfl, rfl, cnd, rfl⟩ := rangeOf3 ey
      cases rv with
      | cons q1 q2 =>
        obtain ⟨v, w, rfl, rv, rw'⟩ := q2.two
        cases q1
        cases rv
        cases rw'
        exact ⟨_, _, _, _, rfl, ⟨cnd.1, cnd.2.1, cnd.2.2.1, (Int.toNat_of_nonneg cnd.2.2.2).symm⟩, f φ1 H1 _ e1 r1 it_rngC⟩

/-! enumerate -/
theorem new_enum {v : Value} {o : Obj} {G : Heap → Prop} (B : Begins v o G) : Meets (Builtin.«enumerate.__new__» ⟨[.type "enumerate", v], []⟩) (fun _ R s => G s.heap ∧
      R (.ok (.ret (.ref (s.heap.push o).objs.size))) { s with heap := (s.heap.push o).push { cls := .type "enumerate", data := .fields #[.none, .bool false, .ref s.heap.objs.size, rawInt 0, .none, .none] } }) :=
  .of_wp fun prog w A R s h => by
    obtain ⟨hp, g, d, tk, os⟩ := s
    obtain ⟨h1, h⟩ := h
    have hsub := sub_enumerate
    have q1 : ∀ {A' : Around} {E : Value → Shared → Prop} {Q : Value → Shared → Prop}, Q (.ref hp.objs.size) ⟨hp.push o, g, d, tk, os⟩ → wpAny (model prog w) A' (pyIter v) Q E ⟨hp, g, d, tk, os⟩ := fun q => B.iter prog w _ _ ⟨hp, g, d, tk, os⟩ _ h1 q
    wp_walk using q1
    refine wpAny_stack_any fun st => wpAny_pure ?_
    split
    · rename_i c _ _ _ _ _
      cases (c == Value.type "enumerate") <;> (wp_walk using q1; exact ⟨_, rfl, h⟩)
    · wp_walk using q1
      exact ⟨_, rfl, h⟩
theorem call_enumB {prog : Program} {w : World} {A : Around} {E : Value → Shared → Prop} {s : Shared} {v : Value} {o : Obj} {G : Heap → Prop} {Q : Value → Shared → Prop} (B : Begins v o G) (h1 : G s.heap)
    (h : ∀ h', IsEnum h' (s.heap.objs.size + 1) s.heap.objs.size 0 .none → h'.get? s.heap.objs.size = some o → (∀ b o, s.heap.get? b = some o → h'.get? b = some o) → Q (.ref (s.heap.objs.size + 1)) { s with heap := h' }) :
    wpAny (model prog w) A (call (.type "enumerate") [v]) Q E s := by
  refine callType_new F.called_enumerate (by decide) (F.typeCall_enumerate_1 _) (F.newCall_enumerate_1 _) (fun obj => F.args_object_init_2 obj _) F.entry_enumerate_new (new_enum B) ⟨h1, ?_⟩
  have hz : (s.heap.push o).objs.size = s.heap.objs.size + 1 := Heap.size_push ..
  show _ ∧ _
  rw [hz]
  have he : IsEnum ((s.heap.push o).push { cls := .type "enumerate", data := .fields #[.none, .bool false, .ref s.heap.objs.size, rawInt 0, .none, .none] }) (s.heap.objs.size + 1) s.heap.objs.size 0 .none := by
    have z := Heap.get?_push_size (s.heap.push o) (o := { cls := .type "enumerate", data := .fields #[.none, .bool false, .ref s.heap.objs.size, rawInt 0, .none, .none] }) rfl
    rw [hz] at z
    exact z
  exact ⟨⟨_, he, rfl⟩, h _ he (Heap.get?_push_of_some _ (Heap.get?_push_size _ B.free)) fun b o x => Heap.get?_push_of_some _ (Heap.get?_push_of_some _ x)⟩

theorem turn_enumT {P : Program} {w : World} {K : PySem.W.Frag} {elts : List Expr} {kk : Nat} {tpos : Pos} (a e it : Addr) :
    Turn P w K (.Tuple elts kk tpos) (Iteu K a) [e, it] e (fun i h => (∃ old, IsEnum h e it ((i : Nat) : Int) old) ∧ h.IsTupleIter it a i ∧ e ≠ it ∧ a ≠ it ∧ a ≠ e) where
  mem := by simp
  obj := fun i h st b hb => by
    obtain ⟨⟨old, he⟩, ⟨o, ho, hc, hd⟩, _⟩ := st
    rcases (by simpa using hb : b = e ∨ b = it) with z | z
    · rw [z]; exact ⟨_, he, fun v q => nomatch q⟩
    · rw [z]; exact ⟨o, ho, fun v q => by rw [hd] at q; cases q⟩
  keep := fun i h h' st k => let ⟨⟨old, he⟩, hi, hne⟩ := st; ⟨⟨old, k e (by simp) _ he⟩, hi.at fun o q => k it (by simp) o q, hne⟩
  item := by
    intro X hP hw hK hc i pins s σ H E I hf st hg
    subst hP hw hK
    obtain ⟨⟨old, he⟩, hit, hne, hai, hae⟩ := st
    obtain ⟨xs, x, hq, hx⟩ := hg
    obtain ⟨its, rv, p, hz⟩ := I.tuple hq
    obtain ⟨u, hu, ru⟩ := rv.get hx
    have hel : e < s.heap.objs.size := Heap.lt_size he
    have hil : it < s.heap.objs.size := by obtain ⟨_, q, _⟩ := hit; exact Heap.lt_size q
    have D : Draws X.prog X.w X.A.in1 it [it, a] its.toArray.size (fun i v => its.toArray[i]? = some v) (fun i h => h.IsTupleIter it a i ∧ h.IsTuple a its.toArray) := Draws.tuple (by exact I.ok.hd hc) it a hai its.toArray
    have hlt : i < its.toArray.size := by
      rw [List.size_toArray]
      exact (List.getElem?_eq_some_iff.mp hu).1
    refine wpAny_pyNext_enum_itemD D he ⟨hit, p⟩ hlt hne (by simp [hne, Ne.symm hae]) fun y h' tk hy ho hst' hT hsz hk => ?_
    obtain rfl : u = y := by
      have z : its[i]? = some y := by simpa using hy
      rw [hu] at z
      exact Option.some.inj z
    refine ⟨_, rfl, wpAny_letOwnedTupleGo_enum (s := { s with heap := h', toks := tk + 1 }) ho fun h'' he' sb => ?_⟩
    have hT2 : h''.get? s.heap.objs.size = some { cls := .type "tuple", data := .seq #[.int i tk, u] } := (sb.2 _ (Nat.ne_of_gt hel)).trans hT
    have fresh : ObjOk X.prog X.w (upd H s.heap.objs.size (.tup [.int (i : Nat), x])) h'' s.heap.objs.size (.tup [.int (i : Nat), x]) :=
      ⟨by show 2 ≤ sizeLine; decide, [.int i tk, u], .cons ⟨_, rfl⟩ (.cons ru .nil), ⟨_, hT2, rfl, _, rfl⟩⟩
    have I1 : Inv X pins σ (upd H s.heap.objs.size (.tup [.int (i : Nat), x])) { s with heap := h'', toks := tk + 1 } :=
      I.turnedNew (ch := [e, it]) (fun b ob hb q => (sb.2 b (fun z => hb (by simp [z]))).trans (hk b ob (fun z => hb (by simp [z])) (fun z => hb (by simp [z])) q)) hf (Nat.le_refl _) fresh
    refine ⟨.ref s.heap.objs.size, _, I1, rfl, ⟨_, x, rfl, I.hok.fresh (Nat.le_refl _), rfl, fun ys hy => by rw [I.tuple_inj hy hq]; exact hx⟩, ⟨⟨u, ?_⟩, hst'.1.at fun o q => (sb.2 it (Ne.symm hne)).trans q, hne, hai, hae⟩, fun b hb => ?_⟩
    · rw [show ((i + 1 : Nat) : Int) = (i : Int) + 1 by omega]
      exact he'
    · have hb' : b < s.heap.objs.size := by
        rcases (by simpa using hb : b = e ∨ b = it) with z | z
        · rw [z]; exact hel
        · rw [z]; exact hil
      rw [upd_ne (Nat.ne_of_lt hb')]
      exact (hf b hb).1
  done := by
    intro X hP hw hK hc i pins s σ H E I hf st hg
    subst hP hw hK
    obtain ⟨⟨old, he⟩, hit, hne, hai, hae⟩ := st
    obtain ⟨xs, hq, hx⟩ := hg
    obtain ⟨its, rv, p, hz⟩ := I.tuple hq
    obtain ⟨f0, f1, f2, f3, f4, f5⟩ := hf it (by simp)
    have hl := rv.length
    have hx2 : its.toArray[i]? = none := by
      rw [List.getElem?_toArray]
      exact List.getElem?_eq_none (by omega)
    have D : Draws X.prog X.w X.A.in1 it [it, a] i (fun _ _ => True) (fun j h => j = i ∧ h.IsTupleIter it a i ∧ h.IsTuple a its.toArray) :=
      { live := fun _ _ st => let ⟨o, ho, _⟩ := st.2.1; ⟨o, ho⟩
        frame := fun _ _ _ st hk => ⟨st.1, st.2.1.at fun o e => hk it (by simp) o e, st.2.2.at fun o e => hk a (by simp) o e⟩
        item := fun j s Q E hj st hQ => absurd st.1 (Nat.ne_of_lt hj)
        done := fun s Q E st hE => wpAny_nextOf_tuple_end (by exact I.ok.hd hc) st.2.1 st.2.2 hx2 hE }
    exact wpAny_pyNext_enum_endD D he ⟨rfl, hit, p⟩ fun h' eb => ⟨rfl, I.turned (t' := s.toks) (fun b o hb q => eb b o hb q) f0 f1 f3 f4 f5⟩
  self := fun A i s Q E st h => let ⟨⟨_, he⟩, _⟩ := st; wpAny_pyIter_enum he h
/-- for i, x in enumerate(e) -/
theorem di_enum {elts : List Expr} {kk : Nat} {tpos : Pos} (hg : Gl X "enumerate") (hm : X.mg "enumerate" = none) (ha : DE X F fu a ca) (hp : isPlain a = true) : DI X F fu (.Tuple elts kk tpos) (.Call (.Name "enumerate" p) [a] [] pos) (.enum ca) := by
  refine ⟨fun pins s σ H R I ⟨φ, se, h, it, h', r, rs, e, f⟩ => ?_⟩
  simp only [evI] at e
  split at e
  · cases e
  · rename_i x h1 ex
    have hs : starEach [a] X.env = [(false, eval a X.env)] := by rw [star_plain hp]; rfl
    have hd : DA X F fu [a] (.cons ca .nil) := da_cons ha da_nil (star_plain hp)
    refine PyProof.Rows.Call_ (ld_blt I hg hm PyProof.Rows.boot_enumerate (PyProof.Rows.callWith_type1 (thn (hd.run pos pins s σ H (fun vs H1 => ∃ φ1, Ext φ H φ1 H1 ∧ Rep X.K φ1 H1 h1 ∧ RVs X.K φ1 H1 [x] vs) I
      ⟨φ, se, h, [x], h1, r, rs, by simp only [evs, ex], fun φ1 H1 v e1 r1 rv => ⟨φ1, e1, r1, rv⟩⟩) fun us s1 ⟨vs, H1, I1, rv0, φ1, e1, r1, rx⟩ => ?_) hs rfl))
    obtain ⟨v, rfl, rx1⟩ := rx.one
    obtain ⟨u, rfl, ry⟩ := vals1 rv0
    have two : ∀ b : Addr, b ∈ [s1.heap.objs.size + 1, s1.heap.objs.size] → FpOk X pins H1 b := fun b hb => by
      have hle : s1.heap.objs.size ≤ b := by
        rcases (by simpa using hb : b = s1.heap.objs.size + 1 ∨ b = s1.heap.objs.size) with z | z
        · rw [z]; exact Nat.le_add_right _ _
        · rw [z]; exact Nat.le_refl _
      exact I1.fpOk hle (I1.hok.fresh hle)
    split at e
    · cases e
      cases rx1 with
      | tup t q =>
        cases ry
        obtain ⟨its, rv, p', hz⟩ := I1.tuple t
        have hlt := p'.lt
        refine call_enumB (begins_tuple _ its.toArray) p' fun h' he hit hk => wpAny_pyIter_enum he ?_
        have I2 : Inv X pins σ H1 { s1 with heap := h' } := I1.kept (t' := s1.toks) hk
        exact ⟨s1.heap.objs.size + 1, [s1.heap.objs.size + 1, s1.heap.objs.size], _, _, H1, rfl, I2, turn_enumT _ (s1.heap.objs.size + 1) s1.heap.objs.size,
          ⟨⟨.none, he⟩, ⟨_, hit, rfl, rfl⟩, Nat.succ_ne_self _, Nat.ne_of_lt hlt, Nat.ne_of_lt (Nat.lt_succ_of_lt hlt)⟩, two, f φ1 H1 _ e1 r1 (it_tupE r1 t q)⟩
    · cases e
      cases rx1 with
      | fl t q =>
        cases ry
        obtain ⟨its, rv, p', hz⟩ := I1.list t.sq
        refine call_enumB (begins_list _ its.toArray) p'.isList fun h' he hit hk => wpAny_pyIter_enum he ?_
        have I2 : Inv X pins σ H1 { s1 with heap := h' } := I1.kept (t' := s1.toks) hk
        exact ⟨s1.heap.objs.size + 1, [s1.heap.objs.size + 1, s1.heap.objs.size], _, _, H1, rfl, I2, turn_enum _ (s1.heap.objs.size + 1) s1.heap.objs.size,
          ⟨⟨.none, he⟩, ⟨_, hit, rfl, rfl⟩, Nat.succ_ne_self _⟩, two, f φ1 H1 _ e1 r1 (it_flE r1 t q)⟩
    · split at e
      · rename_i l
        cases e
        cases rx1 with
        | ref q =>
          cases ry
          obtain ⟨vs, a1, a2⟩ := r1.lst q l
          obtain ⟨its, rv, p', hz⟩ := I1.list (SqL.of a1)
          refine call_enumB (begins_list _ its.toArray) p'.isList fun h' he hit hk => wpAny_pyIter_enum he ?_
          have I2 : Inv X pins σ H1 { s1 with heap := h' } := I1.kept (t' := s1.toks) hk
          exact ⟨s1.heap.objs.size + 1, [s1.heap.objs.size + 1, s1.heap.objs.size], _, _, H1, rfl, I2, turn_enum _ (s1.heap.objs.size + 1) s1.heap.objs.size,
            ⟨⟨.none, he⟩, ⟨_, hit, rfl, rfl⟩, Nat.succ_ne_self _⟩, two, f φ1 H1 _ e1 r1 (it_dyE q)⟩
      · cases e
    · cases e
end
end EV

set_option Elab.async false
set_option linter.all false
set_option maxRecDepth 100000
set_option maxHeartbeats 4000000
/-! EV10: targets, comprehensions. -/
namespace EV
open PySem PySem.Spec L2

def gNames : List Nat → TGs
  | [] => gNil
  | i :: is => gCons (gName i) (gNames is)
def gTG (K : PySem.W.Frag) : Tg → TG
  | .nm i => gName i
  | .tp is => gTup K is.length (gNames is)
def tgS : Tg → List Nat
  | .nm i => [i]
  | .tp is => is
/-- the same but at some slots -/
def Off (vs : List Nat) (σ σ2 : L2.St) : Prop := σ2.length = σ.length ∧ ∀ j, j ∉ vs → σ2[j]? = σ[j]?
section
variable {K : PySem.W.Frag} {φ : List Addr} {H : Hp} {h : EH}
theorem bindAll_ok : ∀ {is : List Nat} {ps : List PV} {vs : List V} {se s2 : Sg} {σ : L2.St} {Q : L2.St → Hp → Prop}, bindAll is ps se = some s2 → RS K φ H se σ → RVs K φ H ps vs →
    (∀ σ2, RS K φ H s2 σ2 → Off is σ σ2 → Q σ2 H) → gNames is vs σ H Q
  | [], [], _, se, s2, σ, Q, e, rs, rv, f => by
    cases rv
    cases e
    exact ⟨rfl, f σ rs ⟨rfl, fun _ _ => rfl⟩⟩
  | i :: is, p :: ps, _, se, s2, σ, Q, e, rs, rv, f => by
    cases rv with
    | cons r1 r2 =>
      refine ⟨_, _, rfl, bindAll_ok (is := is) (by simpa [bindAll] using e) (rs.set r1) r2 fun σ2 q o => f σ2 q ⟨by rw [o.1, List.length_set], fun j hj => ?_⟩⟩
      rw [o.2 j (fun z => hj (List.mem_cons_of_mem _ z)), List.getElem?_set_ne (fun z => hj (by rw [z]; exact List.mem_cons_self))]
  | [], _ :: _, _, _, _, _, _, e, _, _, _ => by simp [bindAll] at e
  | _ :: _, [], _, _, _, _, _, e, _, _, _ => by simp [bindAll] at e
theorem bindAll_len : ∀ {is : List Nat} {ps : List PV} {se s2 : Sg}, bindAll is ps se = some s2 → is.length = ps.length
  | [], [], _, _, _ => rfl
  | i :: is, p :: ps, _, _, e => by
    rw [List.length_cons, List.length_cons, bindAll_len (by simpa [bindAll] using e)]
  | [], _ :: _, _, _, e => by simp [bindAll] at e
  | _ :: _, [], _, _, e => by simp [bindAll] at e
theorem bindT_ok {t : Tg} {p : PV} {v : V} {se s2 : Sg} {σ : L2.St} {Q : L2.St → Hp → Prop} (e : bindT t p se = some s2) (rs : RS K φ H se σ) (rv : RV K φ H p v) (f : ∀ σ2, RS K φ H s2 σ2 → Off (tgS t) σ σ2 → Q σ2 H) : gTG K t v σ H Q := by
  cases t with
  | nm i =>
    cases e
    refine f _ (rs.set rv) ⟨by rw [List.length_set], fun j hj => ?_⟩
    rw [List.getElem?_set_ne (fun z => hj (by rw [z]; exact List.mem_singleton.mpr rfl))]
  | tp is =>
    cases rv with
    | tup t q =>
      have e : bindAll is _ se = some s2 := e
      exact ⟨_, _, rfl, t, by rw [← q.length, bindAll_len e], bindAll_ok e rs q f⟩
    | non => cases e
    | bl b => cases e
    | int i => cases e
    | str x => cases e
    | ref q => cases e
    | fl t q => cases e
/-- a, b = a tuple or a list -/
def gTA (K : PySem.W.Frag) (is : List Nat) : TG := fun v σ H Q => gTup K is.length (gNames is) v σ H Q ∨ gUnl K is.length (gNames is) v σ H Q
theorem pg_or {X : Cx} {e : Expr} {t u : TG} (a : PG X e t) (b : PG X e u) : PG X e (fun v σ H Q => t v σ H Q ∨ u v σ H Q) := ⟨fun pins s σ H v w Q I r h => h.elim (a.run pins s σ H v w Q I r) (b.run pins s σ H v w Q I r)⟩
theorem unT_ok {is : List Nat} {p : PV} {xs : List PV} {v : V} {se s2 : Sg} {σ : L2.St} {Q : L2.St → Hp → Prop} (r : Rep K φ H h) (u : unT h p = some xs) (e : bindAll is xs se = some s2) (rs : RS K φ H se σ) (rv : RV K φ H p v) (f : ∀ σ2, RS K φ H s2 σ2 → Off is σ σ2 → Q σ2 H) : gTA K is v σ H Q := by
  cases rv with
  | tup t q =>
    cases u
    exact .inl ⟨_, _, rfl, t, by rw [← q.length, bindAll_len e], bindAll_ok e rs q f⟩
  | ref q =>
    simp only [unT] at u
    split at u
    · rename_i l
      cases u
      obtain ⟨vs, e1, e3⟩ := r.lst q l
      exact .inr ⟨_, vs, rfl, SqL.of e1, by rw [← e3.length, bindAll_len e], bindAll_ok e rs e3 f⟩
    · cases u
  | non => cases u
  | bl b => cases u
  | int i => cases u
  | str x => cases u
  | fl t q => cases u
theorem wipe_in {σ : L2.St} {i : Nat} : ∀ {vs : List Nat}, i ∈ vs → (wipe σ vs)[i]? = if i < σ.length then some none else none
  | v :: vs, h => by
    unfold wipe
    by_cases c : v = i
    · subst c
      by_cases hl : v < σ.length
      · rw [if_pos hl, List.getElem?_set_self (by rw [wipe_length]; exact hl)]
      · rw [if_neg hl]
        exact List.getElem?_eq_none (by rw [List.length_set, wipe_length]; omega)
    · rw [List.getElem?_set_ne c]
      rcases List.mem_cons.mp h with e | e
      · exact absurd e.symm c
      · exact wipe_in e
theorem wipe_off {vs : List Nat} {σ σ2 : L2.St} (o : Off vs σ σ2) : wipe σ2 vs = wipe σ vs := by
  refine List.ext_getElem? fun i => ?_
  by_cases c : i ∈ vs
  · rw [wipe_in c, wipe_in c, o.1]
  · rw [wipe_out c, wipe_out c, o.2 i c]
theorem wipe_wipe (vs : List Nat) (σ : L2.St) : wipe (wipe σ vs) vs = wipe σ vs := by
  refine wipe_off ⟨wipe_length σ vs, fun j hj => wipe_out hj⟩
theorem wipeE_len : ∀ (vs : List Nat) (s : Sg), (wipeE s vs).length = s.length
  | [], _ => rfl
  | v :: vs, s => by unfold wipeE; rw [List.length_set, wipeE_len vs s]
theorem wipeE_some {s : Sg} {i : Nat} {p : PV} : ∀ {vs : List Nat}, (wipeE s vs)[i]? = some (some p) → s[i]? = some (some p) ∧ i ∉ vs
  | [], h => ⟨h, by simp⟩
  | v :: vs, h => by
    unfold wipeE at h
    by_cases c : v = i
    · subst c
      by_cases hl : v < (wipeE s vs).length
      · rw [List.getElem?_set_self hl] at h; cases h
      · rw [List.getElem?_eq_none (by simpa using hl)] at h; cases h
    · rw [List.getElem?_set_ne c] at h
      obtain ⟨h1, h2⟩ := wipeE_some h
      exact ⟨h1, fun z => by rcases List.mem_cons.mp z with e | e; exact c e.symm; exact h2 e⟩
theorem RS.wipe {se : Sg} {σ : L2.St} (rs : RS K φ H se σ) (vs : List Nat) : RS K φ H (wipeE se vs) (wipe σ vs) := by
  refine ⟨by rw [wipeE_len, wipe_length]; exact rs.1, fun i p e => ?_⟩
  obtain ⟨h1, h2⟩ := wipeE_some e
  obtain ⟨v, a, b⟩ := rs.2 i p h1
  exact ⟨v, by rw [wipe_out h2]; exact a, b⟩

/-- a walk over fixed items, told by places -/
theorem compS_D {f : PV → EH → Option (Option PV × EH)} {xs : List PV} : ∀ {ys : List PV} {i : Nat} {acc : List PV} {h : EH}, xs.drop i = ys → i + ys.length = xs.length → compS f ys acc h = compD (.st xs) f (ys.length + 1) i acc h
  | [], i, acc, h, e, l => by
    have n : xs[i]? = none := List.getElem?_eq_none (by simp at l; omega)
    simp only [compS, compD, item, List.length_nil, n]
  | y :: ys, i, acc, h, e, l => by
    have n : xs[i]? = some y := by
      have := List.getElem?_drop (xs := xs) (i := i) (j := 0)
      rw [e] at this
      simpa using this.symm
    have e2 : xs.drop (i + 1) = ys := by
      rw [← List.tail_drop, e]; rfl
    have l2 : i + 1 + ys.length = xs.length := by simp at l; omega
    rw [List.length_cons, compS, compD]
    simp only [item, n]
    cases hf : f y h with
    | none => rfl
    | some r =>
      obtain ⟨o, h1⟩ := r
      cases o with
      | none => exact compS_D e2 l2
      | some z =>
        by_cases c : acc.length < sizeLine
        · simp only [if_pos c]
          exact compS_D e2 l2
        · simp only [if_neg c]
end

section
variable {X : Cx} {F : Ca} {fu : Nat} {elt tg iter : Expr} {ce cc : CE} {ci : CI} {t : Tg} {pos : Pos}
/-- [elt for tg in iter if ..] -/
theorem de_comp {ifs : List Expr} {scope : Scope} {own : List (Str × Nat)} (hc : X.calm = true) (hN : X.N.Nodup) (hi : DI X F fu tg iter ci) (ok : BlkOk X.N X.env.scope scope own)
    (hg : ∀ (s : Shared) (H : Hp) (C : Addr) (cl : List (Str × Addr)) (fp : List Addr), PG (X.blk s H scope (compEnvC scope cl C X.env) fp) tg (gTG X.K t))
    (ht : ∀ (s : Shared) (H : Hp) (C : Addr) (cl : List (Str × Addr)) (fp : List Addr), PTs (X.blk s H scope (compEnvC scope cl C X.env) fp) ifs (tT X.K (ev F fu cc)))
    (he : ∀ (s : Shared) (H : Hp) (C : Addr) (cl : List (Str × Addr)) (fp : List Addr), PE (X.blk s H scope (compEnvC scope cl C X.env) fp) elt (tE X.K (ev F fu ce)))
    (hs : ∀ x, foldedSetIterable iter X.env x = pure x) (hw : ∀ i ∈ tgS t, i ∈ own.map (·.2)) :
    ∀ σ H Q, tE X.K (ev F fu (.comp ce t ci cc (own.map (·.2)))) σ H Q → tLc (tI X.K (evI F fu ci)) (gTG X.K t) (tT X.K (ev F fu cc)) (tE X.K (ev F fu ce)) (own.map (·.2)) σ H Q := by
  intro σ H Q ⟨φ, se, h, v, h', r, rs, e, f⟩
  simp only [ev] at e
  split at e
  · cases e
  · rename_i J h1 ej
    generalize hfn : (fun (x : PV) (h2 : EH) => match bindT t x (wipeE se (own.map (·.2))) with
        | none => none
        | some s2 => match ev F fu cc s2 h2 with
          | none => none
          | some (b, h3) => match truth h3 b with
            | none => none
            | some false => some (none, h3)
            | some true => match ev F fu ce s2 h3 with
              | none => none
              | some (y, h4) => some (some y, h4)) = fn at e
    have key : ∃ m acc h5, compD J fn m 0 [] h1 = some (acc, h5) ∧ v = .ref h5.length ∧ h' = h5 ++ [.lst acc] := by
      split at e
      · cases e
      · rename_i acc h5 ec
        unfold new at e
        cases e
        split at ec
        · rename_i xs
          exact ⟨xs.length + 1, acc, h5, by rw [← ec]; exact (compS_D (by simp) (by simp)).symm, rfl, rfl⟩
        · exact ⟨fu, acc, h5, ec, rfl, rfl⟩
    clear e
    obtain ⟨m0, accF, h5, ec, rfl, rfl⟩ := key
    refine ⟨φ, se, h, J, h1, r, rs, ej, fun φ1 H1 J' e1 r1 it => ?_⟩
    intro D hD
    have hDφ : D ∉ φ1 := r1.free hD
    refine ⟨fun i m H2 => ∃ φ2 h2 acc av, Ext φ1 H1 φ2 H2 ∧ Rep X.K φ2 H2 h2 ∧ D ∉ φ2 ∧ H2 D = some (.lst av) ∧ RVs X.K φ2 H2 acc av ∧ compD J fn m i acc h2 = some (accF, h5), ⟨m0, φ1, h1, [], [], Ext.put hD, r1.put hD, hDφ, upd_same, .nil, ec⟩, ?_⟩
    rintro i m H2 ⟨φ2, h2, acc, av, e2, r2, nD, eD, ra, ec2⟩
    cases m with
    | zero => cases ec2
    | succ m =>
      rw [compD] at ec2
      obtain ⟨stp, go⟩ := it φ2 H2 h2 i (e2.e0 r1) r2
      split at ec2
      · cases ec2
      · rename_i hit
        cases ec2
        refine .inl ⟨stp hit, ?_⟩
        refine f (φ2 ++ [D]) H2 _ ⟨?_, fun a o ea na => ?_, fun a o u ea => e2.fz _ _ _ (e1.fz _ _ _ ea)⟩ (r2.newAt nD ⟨av, eD, RVs.ext ⟨⟨[D], rfl⟩, fun _ _ z => z, fun _ _ _ z => z⟩ _ _ ra⟩) (.ref (by rw [← r2.len]; simp))
        · obtain ⟨ψ, z⟩ := (e1.trans e2).pre
          exact ⟨ψ ++ [D], by rw [z, List.append_assoc]⟩
        · obtain ⟨k1, k2⟩ := e1.old a o ea na
          have ne : a ≠ D := by intro z; subst z; rw [hD] at k1; cases k1
          obtain ⟨k3, k4⟩ := e2.old a o k1 k2
          refine ⟨k3, ?_⟩
          simp only [List.mem_append, List.mem_singleton, not_or]
          exact ⟨k4, ne⟩
      · rename_i p hit
        obtain ⟨g1, g2⟩ := go p hit
        refine .inr ⟨g1, fun H3 => ∃ φ2 h2 acc av, Ext φ1 H1 φ2 H3 ∧ Rep X.K φ2 H3 h2 ∧ D ∉ φ2 ∧ H3 D = some (.lst av) ∧ RVs X.K φ2 H3 acc av ∧ compD J fn m (i + 1) acc h2 = some (accF, h5), fun H' z => ⟨m, Nat.lt_succ_self m, z⟩, fun x H3 y => ?_⟩
        obtain ⟨e3, r3, rx⟩ := g2 x H3 y
        have nD3 : H3 D = some (.lst av) := (e3.old D _ eD nD).1
        split at ec2
        · cases ec2
        · rename_i hf
          rw [← hfn] at hf
          simp only at hf
          split at hf
          · cases hf
          · rename_i s2 hb
            split at hf
            · cases hf
            · rename_i bv h3 hcv
              split at hf
              · cases hf
              · rename_i htr
                cases hf
                have rs3 : RS X.K φ2 H3 (wipeE se (own.map (·.2))) (wipe σ (own.map (·.2))) := (((rs.mono r e1).mono r1 e2).mono r2 e3).wipe _
                refine bindT_ok hb rs3 rx fun σ2 rs4 off => ⟨?_, φ2, s2, h2, bv, _, false, r3, rs4, hcv, htr, fun φ4 H4 e4 r4 => iteF ?_⟩
                · rw [wipe_off (vs := own.map (·.2)) ⟨off.1, fun j hj => off.2 j fun z => hj (hw j z)⟩, wipe_wipe]
                · obtain ⟨k1, k2⟩ := e4.old D _ nD3 nD
                  exact ⟨φ4, _, acc, av, e2.trans (e3.trans e4), r4, k2, k1, (ra.mono r2 e3).mono r3 e4, ec2⟩
              · split at hf
                · cases hf
                · cases hf
        · rename_i y h4 hf
          rw [← hfn] at hf
          simp only at hf
          split at hf
          · cases hf
          · rename_i s2 hb
            split at hf
            · cases hf
            · rename_i bv h3 hcv
              split at hf
              · cases hf
              · cases hf
              · rename_i htr
                split at hf
                · cases hf
                · rename_i yv h6 hev
                  cases hf
                  have rs3 : RS X.K φ2 H3 (wipeE se (own.map (·.2))) (wipe σ (own.map (·.2))) := (((rs.mono r e1).mono r1 e2).mono r2 e3).wipe _
                  split at ec2
                  · rename_i hz
                    refine bindT_ok hb rs3 rx fun σ2 rs4 off => ⟨?_, φ2, s2, h2, bv, _, true, r3, rs4, hcv, htr, fun φ4 H4 e4 r4 => iteT ⟨φ4, s2, _, _, _, r4, rs4.mono r3 e4, hev, fun φ6 H6 y' e6 r6 ry => ?_⟩⟩
                    · rw [wipe_off (vs := own.map (·.2)) ⟨off.1, fun j hj => off.2 j fun z => hj (hw j z)⟩, wipe_wipe]
                    · obtain ⟨k1, k2⟩ := e4.old D _ nD3 nD
                      obtain ⟨k3, k4⟩ := e6.old D _ k1 k2
                      have nt : ∀ xs, H6 D ≠ some (.tup xs) := fun xs z => by rw [k3] at z; cases z
                      have nf : ∀ o u, H6 D ≠ some (.frz o u) := fun o u z => by rw [k3] at z; cases z
                      have ra6 := ((ra.mono r2 e3).mono r3 e4).mono r4 e6
                      refine ⟨av, k3, by rw [← ra6.length]; exact hz, φ6, _, acc ++ [_], av ++ [y'], ⟨(e2.trans (e3.trans (e4.trans e6))).pre, fun a o ea na => ?_, fun a o u ea => ?_⟩, r6.other k4 nt nf, k4, upd_same, RVs.ext (Ext0.other nt nf) _ _ (ra6.append (.cons ry .nil)), ec2⟩
                      · have ne : a ≠ D := by intro z; subst z; rw [hD] at ea; cases ea
                        obtain ⟨k5, k6⟩ := (e2.trans (e3.trans (e4.trans e6))).old a o ea na
                        exact ⟨by rw [upd_ne ne]; exact k5, k6⟩
                      · have ne : a ≠ D := by intro z; subst z; rw [hD] at ea; cases ea
                        rw [upd_ne ne]
                        exact (e2.trans (e3.trans (e4.trans e6))).fz a o u ea
                  · cases ec2
/-- {k: v for tg in iter if ..} -/
theorem de_dcomp {ck cv : CE} {scope : Scope} {own : List (Str × Nat)} (hc : X.calm = true) (hN : X.N.Nodup) (hi : DI X F fu tg iter ci) (ok : BlkOk X.N X.env.scope scope own)
    (hg : ∀ (s : Shared) (H : Hp) (C : Addr) (cl : List (Str × Addr)) (fp : List Addr), PG (X.blk s H scope (compEnvC scope cl C X.env) fp) tg (gTG X.K t))
    (hw : ∀ i ∈ tgS t, i ∈ own.map (·.2)) :
    ∀ σ H Q, tE X.K (ev F fu (.dcomp ck cv t ci cc (own.map (·.2)))) σ H Q → tDc (tI X.K (evI F fu ci)) (gTG X.K t) (tT X.K (ev F fu cc)) (tE X.K (ev F fu ck)) (tE X.K (ev F fu cv)) (own.map (·.2)) σ H Q := by
  intro σ H Q ⟨φ, se, h, v, h', r, rs, e, f⟩
  simp only [ev] at e
  split at e
  · cases e
  · rename_i J h1 ej
    generalize hfn : (fun (x : PV) (h2 : EH) => match bindT t x (wipeE se (own.map (·.2))) with
        | none => none
        | some s2 => match ev F fu cc s2 h2 with
          | none => none
          | some (b, h3) => match truth h3 b with
            | none => none
            | some false => some (none, h3)
            | some true => match ev F fu ck s2 h3 with
              | none => none
              | some (k, h4) => match ev F fu cv s2 h4 with
                | none => none
                | some (y, h5) => some (some (k, y), h5)) = fn at e
    have key : ∃ m acc h5, compK J fn m 0 [] h1 = some (acc, h5) ∧ v = .ref h5.length ∧ h' = h5 ++ [.dict acc] := by
      split at e
      · cases e
      · rename_i acc h5 ec
        unfold new at e
        cases e
        exact ⟨_, acc, h5, ec, rfl, rfl⟩
    clear e
    obtain ⟨m0, accF, h5, ec, rfl, rfl⟩ := key
    refine ⟨φ, se, h, J, h1, r, rs, ej, fun φ1 H1 J' e1 r1 it => ?_⟩
    intro D hD
    have hDφ : D ∉ φ1 := r1.free hD
    refine ⟨fun i m H2 => ∃ φ2 h2 acc av, Ext φ1 H1 φ2 H2 ∧ Rep X.K φ2 H2 h2 ∧ D ∉ φ2 ∧ H2 D = some (.dK av) ∧ RKs X.K φ2 H2 acc av ∧ compK J fn m i acc h2 = some (accF, h5), ⟨m0, φ1, h1, [], [], Ext.put hD, r1.put hD, hDφ, upd_same, .nil, ec⟩, ?_⟩
    rintro i m H2 ⟨φ2, h2, acc, av, e2, r2, nD, eD, ra, ec2⟩
    cases m with
    | zero => cases ec2
    | succ m =>
      rw [compK] at ec2
      obtain ⟨stp, go⟩ := it φ2 H2 h2 i (e2.e0 r1) r2
      split at ec2
      · cases ec2
      · rename_i hit
        cases ec2
        refine .inl ⟨stp hit, ?_⟩
        refine f (φ2 ++ [D]) H2 _ ⟨?_, fun a o ea na => ?_, fun a o u ea => e2.fz _ _ _ (e1.fz _ _ _ ea)⟩ (r2.newAt nD ⟨av, eD, ra.ext ⟨⟨[D], rfl⟩, fun _ _ z => z, fun _ _ _ z => z⟩⟩) (.ref (by rw [← r2.len]; simp))
        · obtain ⟨ψ, z⟩ := (e1.trans e2).pre
          exact ⟨ψ ++ [D], by rw [z, List.append_assoc]⟩
        · obtain ⟨k1, k2⟩ := e1.old a o ea na
          have ne : a ≠ D := by intro z; subst z; rw [hD] at k1; cases k1
          obtain ⟨k3, k4⟩ := e2.old a o k1 k2
          refine ⟨k3, ?_⟩
          simp only [List.mem_append, List.mem_singleton, not_or]
          exact ⟨k4, ne⟩
      · rename_i p hit
        obtain ⟨g1, g2⟩ := go p hit
        refine .inr ⟨g1, fun H3 => ∃ φ2 h2 acc av, Ext φ1 H1 φ2 H3 ∧ Rep X.K φ2 H3 h2 ∧ D ∉ φ2 ∧ H3 D = some (.dK av) ∧ RKs X.K φ2 H3 acc av ∧ compK J fn m (i + 1) acc h2 = some (accF, h5), fun H' z => ⟨m, Nat.lt_succ_self m, z⟩, fun x H3 y => ?_⟩
        obtain ⟨e3, r3, rx⟩ := g2 x H3 y
        have nD3 : H3 D = some (.dK av) := (e3.old D _ eD nD).1
        split at ec2
        · cases ec2
        · rename_i hf
          rw [← hfn] at hf
          simp only at hf
          split at hf
          · cases hf
          · rename_i s2 hb
            split at hf
            · cases hf
            · rename_i bv h3 hcv
              split at hf
              · cases hf
              · rename_i htr
                cases hf
                have rs3 : RS X.K φ2 H3 (wipeE se (own.map (·.2))) (wipe σ (own.map (·.2))) := (((rs.mono r e1).mono r1 e2).mono r2 e3).wipe _
                refine bindT_ok hb rs3 rx fun σ2 rs4 off => ⟨?_, φ2, s2, h2, bv, _, false, r3, rs4, hcv, htr, fun φ4 H4 e4 r4 => iteF ?_⟩
                · rw [wipe_off (vs := own.map (·.2)) ⟨off.1, fun j hj => off.2 j fun z => hj (hw j z)⟩, wipe_wipe]
                · obtain ⟨k1, k2⟩ := e4.old D _ nD3 nD
                  exact ⟨φ4, _, acc, av, e2.trans (e3.trans e4), r4, k2, k1, (ra.mono r2 e3).mono r3 e4, ec2⟩
              · split at hf
                · cases hf
                · split at hf
                  · cases hf
                  · cases hf
        · rename_i kp y h4 hf
          rw [← hfn] at hf
          simp only at hf
          split at hf
          · cases hf
          · rename_i s2 hb
            split at hf
            · cases hf
            · rename_i bv h3 hcv
              split at hf
              · cases hf
              · cases hf
              · rename_i htr
                split at hf
                · cases hf
                · rename_i kv h6 hek
                  split at hf
                  · cases hf
                  · rename_i yv h7 hev
                    cases hf
                    have rs3 : RS X.K φ2 H3 (wipeE se (own.map (·.2))) (wipe σ (own.map (·.2))) := (((rs.mono r e1).mono r1 e2).mono r2 e3).wipe _
                    split at ec2
                    · rename_i kk hkk
                      split at ec2
                      · rename_i hz
                        refine bindT_ok hb rs3 rx fun σ2 rs4 off => ⟨?_, φ2, s2, h2, bv, _, true, r3, rs4, hcv, htr, fun φ4 H4 e4 r4 => iteT ⟨φ4, s2, _, _, _, r4, rs4.mono r3 e4, hek, fun φ5 H5 k' e5 r5 rk => ⟨φ5, s2, _, _, _, r5, (rs4.mono r3 e4).mono r4 e5, hev, fun φ6 H6 y' e6 r6 ry => ?_⟩⟩⟩
                        · rw [wipe_off (vs := own.map (·.2)) ⟨off.1, fun j hj => off.2 j fun z => hj (hw j z)⟩, wipe_wipe]
                        · obtain ⟨k1, k2⟩ := e4.old D _ nD3 nD
                          obtain ⟨k3, k4⟩ := e5.old D _ k1 k2
                          obtain ⟨k5, k6⟩ := e6.old D _ k3 k4
                          have nt : ∀ xs, H6 D ≠ some (.tup xs) := fun xs z => by rw [k5] at z; cases z
                          have nf : ∀ o u, H6 D ≠ some (.frz o u) := fun o u z => by rw [k5] at z; cases z
                          have ra6 := (((ra.mono r2 e3).mono r3 e4).mono r4 e5).mono r5 e6
                          have ek := keyOf_V rk hkk
                          subst ek
                          refine ⟨av, kk, rfl, k5, by rw [← ra6.length]; exact hz, φ6, _, dput acc _ _, putK av kk y', ⟨(e2.trans (e3.trans (e4.trans (e5.trans e6)))).pre, fun a o ea na => ?_, fun a o u ea => ?_⟩, r6.other k6 nt nf, k6, upd_same, (dput_ok ra6 hkk ry).ext (Ext0.other nt nf), ec2⟩
                          · have ne : a ≠ D := by intro z; subst z; rw [hD] at ea; cases ea
                            obtain ⟨k7, k8⟩ := (e2.trans (e3.trans (e4.trans (e5.trans e6)))).old a o ea na
                            exact ⟨by rw [upd_ne ne]; exact k7, k8⟩
                          · have ne : a ≠ D := by intro z; subst z; rw [hD] at ea; cases ea
                            rw [upd_ne ne]
                            exact (e2.trans (e3.trans (e4.trans (e5.trans e6)))).fz a o u ea
                      · cases ec2
                    · cases ec2
theorem RS.ext0 {K : PySem.W.Frag} {φ φ' : List Addr} {H H' : Hp} {se : Sg} {σ : L2.St} (q : RS K φ H se σ) (x : Ext0 φ H φ' H') : RS K φ' H' se σ :=
  ⟨q.1, fun i p e => let ⟨v, e1, e2⟩ := q.2 i p e; ⟨v, e1, RV.ext x _ _ e2⟩⟩
theorem ite_tt {A B : Prop} (h : A) : if true = true then A else B := by rw [if_pos rfl]; exact h
/-- [elt for tg in iter for tg1 in iter1] -/
theorem de_comp2 {ci1 : CI} {t1 : Tg} {scope : Scope} {own : List (Str × Nat)} {vs1 : List Nat} (hc : X.calm = true) (hN : X.N.Nodup) (ok : BlkOk X.N X.env.scope scope own)
    (hw : ∀ i ∈ tgS t, i ∈ own.map (·.2)) (hw1 : ∀ i ∈ tgS t1, i ∈ vs1) :
    ∀ σ H Q, tE X.K (ev F fu (.comp2 ce t ci t1 ci1 (own.map (·.2)) vs1)) σ H Q → tLc2 (tI X.K (evI F fu ci)) (gTG X.K t) tYes (tI X.K (evI F fu ci1)) (gTG X.K t1) tYes (tE X.K (ev F fu ce)) (own.map (·.2)) vs1 σ H Q := by
  intro σ H Q ⟨φ, se, h, v, h', r, rs, e, f⟩
  simp only [ev] at e
  split at e
  · cases e
  · rename_i J h1 ej
    generalize hgn : (fun (x : PV) (acc : List PV) (h2 : EH) => match bindT t x (wipeE se (own.map (·.2))) with
        | none => none
        | some s2 => match evI F fu ci1 s2 h2 with
          | none => none
          | some (J1, h3) => compD J1 (fun y h4 => match bindT t1 y (wipeE s2 vs1) with
            | none => none
            | some s3 => match ev F fu ce s3 h4 with
              | none => none
              | some (z, h5) => some (some z, h5)) (itFuel fu J1) 0 acc h3) = gn at e
    have key : ∃ m acc h5, comp2D J gn m 0 [] h1 = some (acc, h5) ∧ v = .ref h5.length ∧ h' = h5 ++ [.lst acc] := by
      split at e
      · cases e
      · rename_i acc h5 ec
        unfold new at e
        cases e
        exact ⟨_, acc, h5, ec, rfl, rfl⟩
    clear e
    obtain ⟨m0, accF, h5, ec, rfl, rfl⟩ := key
    refine ⟨φ, se, h, J, h1, r, rs, ej, fun φ1 H1 J' e1 r1 it => ?_⟩
    intro D hD
    have hDφ : D ∉ φ1 := r1.free hD
    refine ⟨fun i m H2 => ∃ φ2 h2 acc av, Ext φ1 H1 φ2 H2 ∧ Rep X.K φ2 H2 h2 ∧ D ∉ φ2 ∧ H2 D = some (.lst av) ∧ RVs X.K φ2 H2 acc av ∧ comp2D J gn m i acc h2 = some (accF, h5), ⟨m0, φ1, h1, [], [], Ext.put hD, r1.put hD, hDφ, upd_same, .nil, ec⟩, ?_⟩
    rintro i m H2 ⟨φ2, h2, acc, av, e2, r2, nD, eD, ra, ec2⟩
    cases m with
    | zero => cases ec2
    | succ m =>
      rw [comp2D] at ec2
      obtain ⟨stp, go⟩ := it φ2 H2 h2 i (e2.e0 r1) r2
      split at ec2
      · cases ec2
      · rename_i hit
        cases ec2
        refine .inl ⟨stp hit, ?_⟩
        refine f (φ2 ++ [D]) H2 _ ⟨?_, fun a o ea na => ?_, fun a o u ea => e2.fz _ _ _ (e1.fz _ _ _ ea)⟩ (r2.newAt nD ⟨av, eD, RVs.ext ⟨⟨[D], rfl⟩, fun _ _ z => z, fun _ _ _ z => z⟩ _ _ ra⟩) (.ref (by rw [← r2.len]; simp))
        · obtain ⟨ψ, z⟩ := (e1.trans e2).pre
          exact ⟨ψ ++ [D], by rw [z, List.append_assoc]⟩
        · obtain ⟨k1, k2⟩ := e1.old a o ea na
          have ne : a ≠ D := by intro z; subst z; rw [hD] at k1; cases k1
          obtain ⟨k3, k4⟩ := e2.old a o k1 k2
          refine ⟨k3, ?_⟩
          simp only [List.mem_append, List.mem_singleton, not_or]
          exact ⟨k4, ne⟩
      · rename_i p hit
        obtain ⟨g1, g2⟩ := go p hit
        refine .inr ⟨g1, fun H3 => ∃ φ2 h2 acc av, Ext φ1 H1 φ2 H3 ∧ Rep X.K φ2 H3 h2 ∧ D ∉ φ2 ∧ H3 D = some (.lst av) ∧ RVs X.K φ2 H3 acc av ∧ comp2D J gn m (i + 1) acc h2 = some (accF, h5), fun H' z => ⟨m, Nat.lt_succ_self m, z⟩, fun x H3 y => ?_⟩
        obtain ⟨e3, r3, rx⟩ := g2 x H3 y
        have nD3 : H3 D = some (.lst av) := (e3.old D _ eD nD).1
        split at ec2
        · cases ec2
        · rename_i acc1 h6 hf
          rw [← hgn] at hf
          simp only at hf
          split at hf
          · cases hf
          · rename_i s2 hb
            split at hf
            · cases hf
            · rename_i J1 h3 ej1
              generalize hfn : (fun (y : PV) (h4 : EH) => match bindT t1 y (wipeE s2 vs1) with
                | none => none
                | some s3 => match ev F fu ce s3 h4 with
                  | none => none
                  | some (z, h5) => some (some z, h5)) = fn at hf
              have rs3 : RS X.K φ2 H3 (wipeE se (own.map (·.2))) (wipe σ (own.map (·.2))) := (((rs.mono r e1).mono r1 e2).mono r2 e3).wipe _
              refine bindT_ok hb rs3 rx fun σ2 rs4 off => ⟨?_, ?_⟩
              · rw [wipe_off (vs := own.map (·.2)) ⟨off.1, fun j hj => off.2 j fun z => hj (hw j z)⟩, wipe_wipe]
              · unfold tYes; refine ite_tt ?_
                refine ⟨φ2, s2, h2, J1, h3, r3, rs4, ej1, fun φ4 H4 J1' e4 r4 it1 => ?_⟩
                obtain ⟨k1, k2⟩ := e4.old D _ nD3 nD
                have rs5 := rs4.mono r3 e4
                refine ⟨fun j k H5 => ∃ φ5 h5 accj avj, Ext φ1 H1 φ5 H5 ∧ Ext0 φ4 H4 φ5 H5 ∧ Rep X.K φ5 H5 h5 ∧ D ∉ φ5 ∧ H5 D = some (.lst avj) ∧ RVs X.K φ5 H5 accj avj ∧ compD J1 fn k j accj h5 = some (acc1, h6),
                  ⟨itFuel fu J1, φ4, h3, acc, av, e2.trans (e3.trans e4), ⟨⟨[], by simp⟩, fun _ _ z => z, fun _ _ _ z => z⟩, r4, k2, k1, (ra.mono r2 e3).mono r3 e4, hf⟩, ?_⟩
                rintro j k H5 ⟨φ5, h7, accj, avj, e5, e50, r5, nD5, eD5, ra5, ec5⟩
                cases k with
                | zero => cases ec5
                | succ k =>
                  rw [compD] at ec5
                  obtain ⟨stp1, go1⟩ := it1 φ5 H5 h7 j e50 r5
                  split at ec5
                  · cases ec5
                  · rename_i hit1
                    cases ec5
                    exact .inl ⟨stp1 hit1, φ5, _, _, avj, e5, r5, nD5, eD5, ra5, ec2⟩
                  · rename_i p1 hit1
                    obtain ⟨g3, g4⟩ := go1 p1 hit1
                    refine .inr ⟨g3, fun H8 => ∃ φ5 h5 accj avj, Ext φ1 H1 φ5 H8 ∧ Ext0 φ4 H4 φ5 H8 ∧ Rep X.K φ5 H8 h5 ∧ D ∉ φ5 ∧ H8 D = some (.lst avj) ∧ RVs X.K φ5 H8 accj avj ∧ compD J1 fn k (j + 1) accj h5 = some (acc1, h6), fun H' z => ⟨k, Nat.lt_succ_self k, z⟩, fun x1 H8 y1 => ?_⟩
                    obtain ⟨e8, r8, rx1⟩ := g4 x1 H8 y1
                    obtain ⟨d1, d2⟩ := e8.old D _ eD5 nD5
                    have ra8 := ra5.mono r5 e8
                    split at ec5
                    · cases ec5
                    · rename_i hf1
                      rw [← hfn] at hf1
                      simp only at hf1
                      split at hf1
                      · cases hf1
                      · split at hf1
                        · cases hf1
                        · cases hf1
                    · rename_i yv h9 hf1
                      rw [← hfn] at hf1
                      simp only at hf1
                      split at hf1
                      · cases hf1
                      · rename_i s3 hb1
                        split at hf1
                        · cases hf1
                        · rename_i zv h10 hev
                          cases hf1
                          have x58 : Ext0 φ4 H4 φ5 H8 := by
                            have q := e8.e0 r5
                            exact ⟨e50.pre, fun a xs z => q.tup _ _ (e50.tup _ _ z), fun a o u z => q.frz _ _ _ (e50.frz _ _ _ z)⟩
                          have rs6 : RS X.K φ5 H8 (wipeE s2 vs1) (wipe σ2 vs1) := (RS.ext0 rs5 x58).wipe _
                          split at ec5
                          · rename_i hz
                            refine bindT_ok hb1 rs6 rx1 fun σ3 rs7 off1 => ⟨?_, ?_⟩
                            · rw [wipe_off (vs := vs1) ⟨off1.1, fun j hj => off1.2 j fun z => hj (hw1 j z)⟩, wipe_wipe]
                            · refine ite_tt ?_
                              refine ⟨φ5, s3, _, _, _, r8, rs7, hev, fun φ9 H9 y' e9 r9 ry => ?_⟩
                              obtain ⟨d3, d4⟩ := e9.old D _ d1 d2
                              have nt : ∀ xs, H9 D ≠ some (.tup xs) := fun xs z => by rw [d3] at z; cases z
                              have nf : ∀ o u, H9 D ≠ some (.frz o u) := fun o u z => by rw [d3] at z; cases z
                              have ra9 := ra8.mono r8 e9
                              refine ⟨avj, d3, by rw [← ra9.length]; exact hz, φ9, _, accj ++ [_], avj ++ [y'], ⟨(e5.trans (e8.trans e9)).pre, fun a o ea na => ?_, fun a o u ea => ?_⟩, ⟨?_, fun a xs ea => ?_, fun a o u ea => ?_⟩, r9.other d4 nt nf, d4, upd_same, RVs.ext (Ext0.other nt nf) _ _ (ra9.append (.cons ry .nil)), ec5⟩
                              · have ne : a ≠ D := by intro z; subst z; rw [hD] at ea; cases ea
                                obtain ⟨k5, k6⟩ := (e5.trans (e8.trans e9)).old a o ea na
                                exact ⟨by rw [upd_ne ne]; exact k5, k6⟩
                              · have ne : a ≠ D := by intro z; subst z; rw [hD] at ea; cases ea
                                rw [upd_ne ne]
                                exact (e5.trans (e8.trans e9)).fz a o u ea
                              · obtain ⟨ψ1, z1⟩ := x58.pre
                                obtain ⟨ψ2, z2⟩ := e9.pre
                                exact ⟨ψ1 ++ ψ2, by rw [z2, z1, List.append_assoc]⟩
                              · have := (e9.e0 r8).tup _ _ (x58.tup _ _ ea)
                                have ne : a ≠ D := by intro z; subst z; exact nt _ this
                                rw [upd_ne ne]; exact this
                              · have := (e9.e0 r8).frz _ _ _ (x58.frz _ _ _ ea)
                                have ne : a ≠ D := by intro z; subst z; exact nf _ _ this
                                rw [upd_ne ne]; exact this
                          · cases ec5
end
end EV

set_option Elab.async false
set_option linter.all false
set_option maxRecDepth 100000
set_option maxHeartbeats 4000000
/-! EV11: statements. -/
namespace EV
open PySem PySem.Spec L2

def FlE (K : PySem.W.Frag) (φ : List Addr) (H : Hp) (σ : L2.St) (D : Ends) : Fl → Prop
  | .nx => D.nx σ H
  | .rt v => ∀ v', RV K φ H v v' → D.rt v' H
  | .bk => D.bk σ H
  | .ct => D.ct σ H
def Fst (K : PySem.W.Frag) (φ : List Addr) (H : Hp) (fl : Fl) (s' : Sg) (h' : EH) (D : Ends) : Prop :=
  ∀ φ' H' σ', Ext φ H φ' H' → Rep K φ' H' h' → RS K φ' H' s' σ' → FlE K φ' H' σ' D fl
def tS (K : PySem.W.Frag) (m : Sg → EH → RtS) : TS := fun D σ H => ∃ φ se h fl s' h', Rep K φ H h ∧ RS K φ H se σ ∧ m se h = some (fl, s', h') ∧ Fst K φ H fl s' h' D
theorem Fst.later {K : PySem.W.Frag} {φ φ1 : List Addr} {H H1 : Hp} {fl : Fl} {s' : Sg} {h' : EH} {D : Ends} (f : Fst K φ H fl s' h' D) (e : Ext φ H φ1 H1) : Fst K φ1 H1 fl s' h' D :=
  fun φ' H' σ' e' r rs => f φ' H' σ' (e.trans e') r rs

section
variable {X : Cx} {F : Ca} {fu : Nat} {a b c e : Expr} {ca cb cc : CE} {es : List Expr} {cs : CEs} {pos p : Pos} {st : Stmt} {sts body : List Stmt} {s1 : CS} {ss bs as' : CSs}
abbrev DS (X : Cx) (F : Ca) (fu : Nat) (s : Stmt) (c : CS) : Prop := PS X s (tS X.K (evS F fu c))
abbrev DSs (X : Cx) (F : Ca) (fu : Nat) (s : List Stmt) (c : CSs) : Prop := PSs X s (tS X.K (evSs F fu c))

theorem dss_nil : DSs X F fu [] .nil := by
  refine weakSs pss_nil fun D σ H ⟨φ, se, h, fl, s', h', r, rs, e, f⟩ => ?_
  simp only [evSs] at e
  cases e
  exact f φ H σ (Ext.refl _ _) r rs
theorem dss_cons (h1 : DS X F fu st s1) (h2 : DSs X F fu sts ss) : DSs X F fu (st :: sts) (.cons s1 ss) := by
  refine weakSs (pss_cons h1 h2) fun D σ H ⟨φ, se, h, fl, s', h', r, rs, e, f⟩ => ?_
  simp only [evSs] at e
  split at e
  · cases e
  · rename_i s2 h2 e2
    exact ⟨φ, se, h, .nx, s2, h2, r, rs, e2, fun φ1 H1 σ1 x1 r1 rs1 => ⟨φ1, s2, h2, fl, s', h', r1, rs1, e, f.later x1⟩⟩
  · rename_i x hn ex
    cases e
    cases fl with
    | nx => exact absurd rfl (hn _ _)
    | rt v => exact ⟨φ, se, h, .rt v, s', h', r, rs, ex, f⟩
    | bk => exact ⟨φ, se, h, .bk, s', h', r, rs, ex, f⟩
    | ct => exact ⟨φ, se, h, .ct, s', h', r, rs, ex, f⟩
theorem ds_pass : DS X F fu (.Pass pos) .pss := by
  refine weakS ps_pass fun D σ H ⟨φ, se, h, fl, s', h', r, rs, e, f⟩ => ?_
  simp only [evS] at e
  cases e
  exact f φ H σ (Ext.refl _ _) r rs
theorem ds_brk : DS X F fu (.Break pos) .brk := by
  refine weakS ps_break fun D σ H ⟨φ, se, h, fl, s', h', r, rs, e, f⟩ => ?_
  simp only [evS] at e
  cases e
  exact f φ H σ (Ext.refl _ _) r rs
theorem ds_cnt : DS X F fu (.Continue pos) .cnt := by
  refine weakS ps_continue fun D σ H ⟨φ, se, h, fl, s', h', r, rs, e, f⟩ => ?_
  simp only [evS] at e
  cases e
  exact f φ H σ (Ext.refl _ _) r rs
theorem ds_expr (ha : DE X F fu a ca) (hs : swapsWith a none pos.line X.env = pure false) : DS X F fu (.Expr a pos) (.expr ca) := by
  refine weakS (ps_expr ha hs) fun D σ H ⟨φ, se, h, fl, s', h', r, rs, e, f⟩ => ?_
  simp only [evS] at e
  split at e
  · cases e
  · rename_i x h1 ex
    cases e
    exact ⟨φ, se, h, x, _, r, rs, ex, fun φ1 H1 v e1 r1 rv => f φ1 H1 σ e1 r1 (rs.mono r e1)⟩
theorem ds_ret (ha : DE X F fu a ca) : DS X F fu (.Return (some a) pos) (.ret ca) := by
  refine weakS (ps_ret ha) fun D σ H ⟨φ, se, h, fl, s', h', r, rs, e, f⟩ => ?_
  simp only [evS] at e
  split at e
  · cases e
  · rename_i x h1 ex
    cases e
    exact ⟨φ, se, h, x, _, r, rs, ex, fun φ1 H1 v e1 r1 rv => f φ1 H1 σ e1 r1 (rs.mono r e1) v rv⟩
theorem ds_retN : DS X F fu (.Return none pos) (.ret (.lit .non)) := by
  refine weakS ps_retN fun D σ H ⟨φ, se, h, fl, s', h', r, rs, e, f⟩ => ?_
  simp only [evS, ev] at e
  cases e
  exact f φ H σ (Ext.refl _ _) r rs .non .non
theorem ds_if (hc : DT X F fu c cc) (ha : DSs X F fu sts as') (hb : DSs X F fu body bs) : DS X F fu (.If c sts body pos) (.ifs cc as' bs) := by
  refine weakS (ps_if hc ha hb) fun D σ H ⟨φ, se, h, fl, s', h', r, rs, e, f⟩ => ?_
  simp only [evS] at e
  split at e
  · cases e
  · rename_i x h1 ex
    split at e
    · cases e
    · rename_i ed
      exact ⟨φ, se, h, x, _, true, r, rs, ex, ed, fun φ1 H1 e1 r1 => iteT ⟨φ1, se, h1, fl, s', h', r1, rs.mono r e1, e, f.later e1⟩⟩
    · rename_i ed
      exact ⟨φ, se, h, x, _, false, r, rs, ex, ed, fun φ1 H1 e1 r1 => iteF ⟨φ1, se, h1, fl, s', h', r1, rs.mono r e1, e, f.later e1⟩⟩
/-- x = e -/
theorem ds_set {i : Nat} {x : Str} {pos' : Pos} (hN : X.N.Nodup) (hi : X.N[i]? = some x) (hx : Loc X.env.scope x) (ha : DE X F fu a ca) (hs : swapsWith a (some (.Name x pos')) pos.line X.env = pure false) (hf : X.fn x = true ∨ X.env.scope.names.lookup x = some .local) :
    DS X F fu (.Assign [.Name x pos'] a pos) (.asg (.nm i) ca) := by
  refine weakS (ps_set hN hi hx ha hs hf) fun D σ H ⟨φ, se, h, fl, s', h', r, rs, e, f⟩ => ?_
  simp only [evS] at e
  split at e
  · cases e
  · rename_i x h1 ex
    cases e
    exact ⟨φ, se, h, x, _, r, rs, ex, fun φ1 H1 v e1 r1 rv => f φ1 H1 _ e1 r1 ((rs.mono r e1).set rv)⟩
/-- x = [..] on one line -/
theorem ds_setLc {i : Nat} {te : TE} (p : PS X st (tAsg te (gName i))) (q : ∀ σ H Q, tE X.K (ev F fu ca) σ H Q → te σ H Q) : DS X F fu st (.asg (.nm i) ca) := by
  refine weakS p fun D σ H ⟨φ, se, h, fl, s', h', r, rs, e, f⟩ => ?_
  simp only [evS] at e
  split at e
  · cases e
  · rename_i x h1 ex
    cases e
    exact q σ H _ ⟨φ, se, h, x, _, r, rs, ex, fun φ1 H1 v e1 r1 rv => f φ1 H1 _ e1 r1 ((rs.mono r e1).set rv)⟩
/-- a, b = e -/
theorem ds_unp {tg : Expr} {is : List Nat} (ha : DE X F fu a ca) (hg : PG X tg (gTA X.K is)) (hs : swapsWithSole [tg] a pos.line X.env = pure false) (hw : swappedStores [tg] a X.env = pure none) (h1 : (assignEach [tg] X.env).map (·.2) = [assign tg X.env]) :
    DS X F fu (.Assign [tg] a pos) (.asg (.tp is) ca) := by
  refine weakS (ps_asg ha hg hs hw h1) fun D σ H ⟨φ, se, h, fl, s', h', r, rs, e, f⟩ => ?_
  simp only [evS] at e
  split at e
  · cases e
  · rename_i x h1 ex
    refine ⟨φ, se, h, x, h1, r, rs, ex, fun φ1 H1 v e1 r1 rv => ?_⟩
    split at e
    · cases e
    · rename_i xs hu
      split at e
      · cases e
      · rename_i hb
        cases e
        exact unT_ok r1 hu hb (rs.mono r e1) rv fun σ2 q off => f φ1 H1 σ2 e1 r1 q
/-- a store to a subscript that is no slice -/
def AsgIx (env : Env) (o i : Expr) (pos' : Pos) : Prop := ∀ v, assign (.Subscript o i pos') env v = (do
  let ov ← holding [v] (eval o env)
  let iv ← holding [v, ov] (eval i env)
  standAt pos'
  holding [v, ov, iv] (setItem ov iv v)
  release [v, ov, iv] [])
/-- o[i] = e -/
theorem ds_sub {o i : Expr} {co ci : CE} {t : TSet} {pos' : Pos} (ht : PSet X t) (hb : SetOk X.K t) (ha : DE X F fu a ca) (ho : DE X F fu o co) (hi : DE X F fu i ci) (hs : swapsWithSole [.Subscript o i pos'] a pos.line X.env = pure false) (hass : AsgIx X.env o i pos') :
    DS X F fu (.Assign [.Subscript o i pos'] a pos) (.asg (.sub co ci) ca) := by
  refine weakS (ps_asg ha (pg_sub ho hi ht hass) hs (by cases a <;> rfl) (by rfl)) fun D σ H ⟨φ, se, h, fl, s', h', r, rs, e, f⟩ => ?_
  simp only [evS] at e
  split at e
  · cases e
  · rename_i x h1 ex
    split at e
    · cases e
    · rename_i y h2 ey
      split at e
      · cases e
      · rename_i z h3 ez
        split at e
        · cases e
        · rename_i h4 e4
          cases e
          refine ⟨φ, se, h, x, h1, r, rs, ex, fun φ1 H1 v e1 r1 rv => ⟨φ1, _, h1, y, h2, r1, rs.mono r e1, ey, fun φ2 H2 o' e2 r2 ro => ⟨φ2, _, h2, z, h3, r2, (rs.mono r e1).mono r1 e2, ez, fun φ3 H3 i' e3 r3 ri => ?_⟩⟩⟩
          exact hb φ3 H3 h3 y z x o' i' v _ _ r3 (ro.mono r2 e3) ri ((rv.mono r1 e2).mono r2 e3) e4 fun φ4 H4 e4 r4 => f φ4 H4 σ (e1.trans (e2.trans (e3.trans e4))) r4 ((((rs.mono r e1).mono r1 e2).mono r2 e3).mono r3 e4)
theorem evs_two {c1 c2 : CE} {s : Sg} {h h2 : EH} {xs : List PV} (e : evs F fu (.cons c1 (.cons c2 .nil)) s h = some (xs, h2)) : ∃ x y, xs = [x, y] := by
  obtain ⟨x, ys, h1, rfl, e1⟩ := lenS e
  obtain ⟨y, rfl⟩ := len1 e1
  exact ⟨x, y, rfl⟩
/-- a, b = x, y -/
theorem ds_par2 {i j : Nat} {x y : Str} {px py pt pt2 : Pos} {kt k2 : Nat} (hc : X.calm = true) (hN : X.N.Nodup) (hi : X.N[i]? = some x) (hj : X.N[j]? = some y) (hij : i ≠ j) (hx : X.env.scope.names.lookup x = some .local) (hy : X.env.scope.names.lookup y = some .local)
    (ha : DA X F fu [a, b] (.cons ca (.cons cb .nil))) (hw : swappedStores [.Tuple [.Name x px, .Name y py] kt pt] (.Tuple [a, b] k2 pt2) X.env = pure (some [x, y])) :
    DS X F fu (.Assign [.Tuple [.Name x px, .Name y py] kt pt] (.Tuple [a, b] k2 pt2) pos) (.par [i, j] (.cons ca (.cons cb .nil))) := by
  refine weakS (ps_par hc hN hi hj hij hx hy ha hw) fun D σ H ⟨φ, se, h, fl, s', h', r, rs, e, f⟩ => ?_
  simp only [evS] at e
  split at e
  · cases e
  · rename_i xs h1 ex
    obtain ⟨u, v, rfl⟩ := evs_two ex
    simp only [bindAll] at e
    cases e
    refine ⟨φ, se, h, _, _, r, rs, ex, fun φ1 H1 vs e1 r1 rv => ?_⟩
    obtain ⟨v1, v2, rfl, q1, q2⟩ := rv.two
    exact ⟨v1, v2, rfl, f φ1 H1 _ e1 r1 (((rs.mono r e1).set q1).set q2)⟩
theorem ds_par3 {i j l : Nat} {x y z : Str} {px py pz pt pt2 : Pos} {kt k2 : Nat} (hc : X.calm = true) (hN : X.N.Nodup) (hi : X.N[i]? = some x) (hj : X.N[j]? = some y) (hl : X.N[l]? = some z) (hij : i ≠ j) (hil : i ≠ l) (hjl : j ≠ l)
    (hx : X.env.scope.names.lookup x = some .local) (hy : X.env.scope.names.lookup y = some .local) (hz : X.env.scope.names.lookup z = some .local)
    (ha : DA X F fu [a, b, c] (.cons ca (.cons cb (.cons cc .nil)))) (hw : swappedStores [.Tuple [.Name x px, .Name y py, .Name z pz] kt pt] (.Tuple [a, b, c] k2 pt2) X.env = pure (some [x, y, z])) :
    DS X F fu (.Assign [.Tuple [.Name x px, .Name y py, .Name z pz] kt pt] (.Tuple [a, b, c] k2 pt2) pos) (.par [i, j, l] (.cons ca (.cons cb (.cons cc .nil)))) := by
  refine weakS (ps_par3 hc hN hi hj hl hij hil hjl hx hy hz ha hw) fun D σ H ⟨φ, se, h, fl, s', h', r, rs, e, f⟩ => ?_
  simp only [evS] at e
  split at e
  · cases e
  · rename_i xs h1 ex
    obtain ⟨u, ys, h2, rfl, ex2⟩ := lenS ex
    obtain ⟨v, w, rfl⟩ := evs_two ex2
    simp only [bindAll] at e
    cases e
    refine ⟨φ, se, h, _, _, r, rs, ex, fun φ1 H1 vs e1 r1 rv => ?_⟩
    cases rv with
    | cons q0 rv =>
      obtain ⟨v1, v2, rfl, q1, q2⟩ := rv.two
      exact ⟨_, v1, v2, rfl, f φ1 H1 _ e1 r1 ((((rs.mono r e1).set q0).set q1).set q2)⟩
/-! x op= e -/
theorem PIp.or {op : Operator} {t t' : TIp} (h : PIp X op t) (h' : PIp X op t') : PIp X op (fun x y H Q => t x y H Q ∨ t' x y H Q) := by
  intro pins s σ H x y v u Q I rx ry q
  rcases q with q | q
  · exact h pins s σ H x y v u Q I rx ry q
  · exact h' pins s σ H x y v u Q I rx ry q
theorem aug_ok (o : BOp) (ho : o = .add ∨ o = .sub) : ∃ t, PIp X (bOp o) t ∧ BinOk X.K t (opA o) := by
  rcases ho with rfl | rfl
  · refine ⟨_, PIp.or ip_add iop_add_str, fun φ H h x y x' y' z h' Q r rx ry q f => ?_⟩
    unfold opA at q
    split at q
    all_goals try contradiction
    · cases q; cases rx; cases ry
      exact .inl ⟨_, _, rfl, rfl, f.here r (.int _)⟩
    · split at q
      · cases q; cases rx; cases ry
        exact .inr ⟨_, _, rfl, rfl, by assumption, f.here r (.str _)⟩
      · cases q
  · refine ⟨_, ip_sub, fun φ H h x y x' y' z h' Q r rx ry q f => ?_⟩
    unfold opA at q
    split at q
    all_goals try contradiction
    cases q; cases rx; cases ry
    exact ⟨_, _, rfl, rfl, f.here r (.int _)⟩
theorem ds_aug {o : BOp} {t : TIp} {i : Nat} {x : Str} {pos' : Pos} (ht : PIp X (bOp o) t) (hb : BinOk X.K t (opA o)) (hN : X.N.Nodup) (hi : X.N[i]? = some x) (hx : Loc X.env.scope x) (ha : DE X F fu a ca) (hf : X.fn x = true ∨ X.env.scope.names.lookup x = some .local) :
    DS X F fu (.AugAssign (.Name x pos') (bOp o) a pos) (.aug i o ca) := by
  refine weakS (ps_aug hN hi hx ha ht hf) fun D σ H ⟨φ, se, h, fl, s', h', r, rs, e, f⟩ => ?_
  simp only [evS] at e
  split at e
  · rename_i x0 hx0
    split at e
    · cases e
    · rename_i y h1 ey
      split at e
      · cases e
      · rename_i z h2 ez
        cases e
        obtain ⟨w, e3, e4⟩ := rs.2 _ _ hx0
        refine ⟨w, e3, φ, se, h, y, h1, r, rs, ey, fun φ1 H1 y' e1 r1 ry => ?_⟩
        exact hb φ1 H1 h1 x0 y w y' z _ _ r1 (e4.mono r e1) ry ez fun φ2 H2 z' e2 r2 rz => f φ2 H2 _ (e1.trans e2) r2 (((rs.mono r e1).mono r1 e2).set rz)
  · cases e
/-- what the evaluator does not tell -/
theorem ds_stk : DS X F fu st .stk := by
  refine ⟨fun pins s σ H D I ⟨φ, se, h, fl, s', h', r, rs, e, f⟩ => ?_⟩
  simp only [evS] at e
  cases e
/-- o[i] op= e -/
theorem ds_augx {o i : Expr} {co ci : CE} {b : BOp} {t : TIp} {tg : V → V → Hp → VK → Prop} {ts : TSet} {pos' : Pos} (ht : PIp X (bOp b) t) (hb : BinOk X.K t (opA b)) (hg : PGet X tg) (hgb : GetOk X.K tg) (hs : PSet X ts) (hsb : SetOk X.K ts)
    (ho : DE X F fu o co) (hi : DE X F fu i ci) (ha : DE X F fu a ca)
    (hst : ∀ ov iv new, augStore i ov iv new = (do holding [new, ov, iv] (setItem ov iv new); release [new, ov, iv] []; pure .next)) :
    DS X F fu (.AugAssign (.Subscript o i pos') (bOp b) a pos) (.augx co ci b ca) := by
  refine weakS (ps_augS ho hi hg ha ht hs hst) fun D σ H ⟨φ, se, h, fl, s', h', r, rs, e, f⟩ => ?_
  simp only [evS] at e
  split at e
  · cases e
  · rename_i x h1 ex
    split at e
    · cases e
    · rename_i y h2 ey
      split at e
      · cases e
      · rename_i v ev0
        split at e
        · cases e
        · rename_i w h3 ew
          split at e
          · cases e
          · rename_i z h4 ez
            split at e
            · cases e
            · rename_i h5 e5
              cases e
              refine ⟨φ, se, h, x, h1, r, rs, ex, fun φ1 H1 x' e1 r1 rx => ⟨φ1, se, h1, y, h2, r1, rs.mono r e1, ey, fun φ2 H2 y' e2 r2 ry => ?_⟩⟩
              refine hgb φ2 H2 h2 x y x' y' v _ r2 (rx.mono r1 e2) ry ev0 fun v' rv => ?_
              refine ⟨φ2, se, h2, w, h3, r2, (rs.mono r e1).mono r1 e2, ew, fun φ3 H3 w' e3 r3 rw' => ?_⟩
              refine hb φ3 H3 h3 v w v' w' z h4 _ r3 (rv.mono r2 e3) rw' ez fun φ4 H4 z' e4 r4 rz => ?_
              exact hsb φ4 H4 h4 x y z x' y' z' _ _ r4 (((rx.mono r1 e2).mono r2 e3).mono r3 e4) ((ry.mono r2 e3).mono r3 e4) rz e5 fun φ5 H5 e6 r5 =>
                f φ5 H5 σ (e1.trans (e2.trans (e3.trans (e4.trans e6)))) r5 (((((rs.mono r e1).mono r1 e2).mono r2 e3).mono r3 e4).mono r4 e6)
/-! loops -/
theorem ds_while (hp : PassesOwn (model X.prog X.w) X.A X.env X.xe) (hc : DT X F fu c cc) (hb : DSs X F fu body bs) : DS X F fu (.While c body [] pos) (.whl cc bs) := by
  refine weakS (ps_while hp hc hb) fun D σ H ⟨φ, se, h, fl, s', h', r, rs, e, f⟩ => ?_
  simp only [evS] at e
  generalize hcf : (fun (s : Sg) (h : EH) => match ev F fu cc s h with
      | none => none
      | some (x, h1) => match truth h1 x with
        | none => none
        | some t => some (t, h1)) = cf at e
  refine ⟨fun m σ1 H1 => ∃ φ1 s1 h1, Ext φ H φ1 H1 ∧ Rep X.K φ1 H1 h1 ∧ RS X.K φ1 H1 s1 σ1 ∧ whileF cf (evSs F fu bs) m s1 h1 = some (fl, s', h'), ⟨fu, φ, se, h, Ext.refl _ _, r, rs, e⟩, ?_⟩
  rintro m σ1 H1 ⟨φ1, s1, h1, e1, r1, rs1, ew⟩
  cases m with
  | zero => cases ew
  | succ m =>
    rw [whileF] at ew
    split at ew
    · cases ew
    · rename_i h2 ec
      cases ew
      rw [← hcf] at ec
      simp only at ec
      split at ec
      · cases ec
      · rename_i x h3 ex
        split at ec
        · cases ec
        · rename_i tv et
          cases ec
          exact ⟨φ1, _, h1, x, _, false, r1, rs1, ex, et, fun φ2 H2 e2 r2 => iteF (f φ2 H2 σ1 (e1.trans e2) r2 (rs1.mono r1 e2))⟩
    · rename_i h2 ec
      rw [← hcf] at ec
      simp only at ec
      split at ec
      · cases ec
      · rename_i x h3 ex
        split at ec
        · cases ec
        · rename_i tv et
          cases ec
          refine ⟨φ1, s1, h1, x, _, true, r1, rs1, ex, et, fun φ2 H2 e2 r2 => iteT ?_⟩
          refine ⟨fun σ3 H3 => ∃ φ3 s3 h3, Ext φ H φ3 H3 ∧ Rep X.K φ3 H3 h3 ∧ RS X.K φ3 H3 s3 σ3 ∧ whileF cf (evSs F fu bs) m s3 h3 = some (fl, s', h'), fun σ3 H3 z => ⟨m, Nat.lt_succ_self m, z⟩, ?_⟩
          split at ew
          · cases ew
          · rename_i s3 h3 eb
            exact ⟨φ2, s1, _, .nx, s3, h3, r2, rs1.mono r1 e2, eb, fun φ4 H4 σ4 e4 r4 rs4 => ⟨φ4, s3, h3, e1.trans (e2.trans e4), r4, rs4, ew⟩⟩
          · rename_i s3 h3 eb
            exact ⟨φ2, s1, _, .ct, s3, h3, r2, rs1.mono r1 e2, eb, fun φ4 H4 σ4 e4 r4 rs4 => ⟨φ4, s3, h3, e1.trans (e2.trans e4), r4, rs4, ew⟩⟩
          · rename_i s3 h3 eb
            cases ew
            exact ⟨φ2, s1, _, .bk, _, _, r2, rs1.mono r1 e2, eb, fun φ4 H4 σ4 e4 r4 rs4 => f φ4 H4 σ4 (e1.trans (e2.trans e4)) r4 rs4⟩
          · rename_i v s3 h3 eb
            cases ew
            exact ⟨φ2, s1, _, .rt v, _, _, r2, rs1.mono r1 e2, eb, fun φ4 H4 σ4 e4 r4 rs4 => f φ4 H4 σ4 (e1.trans (e2.trans e4)) r4 rs4⟩
theorem forS_D {f : PV → Sg → EH → RtS} {xs : List PV} : ∀ {ys : List PV} {i : Nat} {s : Sg} {h : EH}, xs.drop i = ys → i + ys.length = xs.length → forS f ys s h = forD (.st xs) f (ys.length + 1) i s h
  | [], i, s, h, e, l => by
    have n : xs[i]? = none := List.getElem?_eq_none (by simp at l; omega)
    simp only [forS, forD, item, List.length_nil, n]
  | y :: ys, i, s, h, e, l => by
    have n : xs[i]? = some y := by
      have := List.getElem?_drop (xs := xs) (i := i) (j := 0)
      rw [e] at this
      simpa using this.symm
    have e2 : xs.drop (i + 1) = ys := by
      rw [← List.tail_drop, e]; rfl
    have l2 : i + 1 + ys.length = xs.length := by simp at l; omega
    rw [List.length_cons, forS, forD]
    simp only [item, n]
    cases hf : f y s h with
    | none => rfl
    | some r =>
      obtain ⟨fl, s2, h2⟩ := r
      cases fl with
      | nx => exact forS_D e2 l2
      | ct => exact forS_D e2 l2
      | bk => rfl
      | rt v => rfl
theorem ds_for {tg iter : Expr} {t : Tg} {ci : CI} (hp : PassesOwn (model X.prog X.w) X.A X.env X.xe) (hc : X.calm = true) (hi : DI X F fu tg iter ci) (hg : PG X tg (gTG X.K t)) (hb : DSs X F fu body bs) (hs : ∀ x, foldedSetIterable iter X.env x = pure x) :
    DS X F fu (.For tg iter body [] pos) (.frr t ci bs) := by
  refine weakS (ps_for hp hc hi hg hb hs) fun D σ H ⟨φ, se, h, fl, s', h', r, rs, e, f⟩ => ?_
  simp only [evS] at e
  split at e
  · cases e
  · rename_i J h1 ej
    generalize hfn : (fun (x : PV) (s : Sg) (h : EH) => match bindT t x s with
        | none => none
        | some s2 => evSs F fu bs s2 h) = fn at e
    have key : ∃ m, forD J fn m 0 se h1 = some (fl, s', h') := by
      split at e
      · rename_i xs
        exact ⟨xs.length + 1, by rw [← e]; exact (forS_D (by simp) (by simp)).symm⟩
      · exact ⟨fu, e⟩
    clear e
    obtain ⟨m0, ec⟩ := key
    refine ⟨φ, se, h, J, h1, r, rs, ej, fun φ1 H1 J' e1 r1 it => ?_⟩
    refine ⟨fun i m σ2 H2 => ∃ φ2 s2 h2, Ext φ1 H1 φ2 H2 ∧ Rep X.K φ2 H2 h2 ∧ RS X.K φ2 H2 s2 σ2 ∧ forD J fn m i s2 h2 = some (fl, s', h'), ⟨m0, φ1, se, h1, Ext.refl _ _, r1, rs.mono r e1, ec⟩, ?_⟩
    rintro i m σ2 H2 ⟨φ2, s2, h2, e2, r2, rs2, ec2⟩
    cases m with
    | zero => cases ec2
    | succ m =>
      rw [forD] at ec2
      obtain ⟨stp, go⟩ := it φ2 H2 h2 i (e2.e0 r1) r2
      split at ec2
      · cases ec2
      · rename_i hit
        cases ec2
        exact .inl ⟨stp hit, f φ2 H2 σ2 (e1.trans e2) r2 rs2⟩
      · rename_i p hit
        obtain ⟨g1, g2⟩ := go p hit
        refine .inr ⟨g1, fun σ3 H3 => ∃ φ2 s2 h2, Ext φ1 H1 φ2 H3 ∧ Rep X.K φ2 H3 h2 ∧ RS X.K φ2 H3 s2 σ3 ∧ forD J fn m (i + 1) s2 h2 = some (fl, s', h'), fun σ3 H' z => ⟨m, Nat.lt_succ_self m, z⟩, fun x H3 y => ?_⟩
        obtain ⟨e3, r3, rx⟩ := g2 x H3 y
        split at ec2
        · cases ec2
        all_goals
          rename_i hf
          rw [← hfn] at hf
          simp only at hf
          split at hf
          · cases hf
          rename_i s4 hb4
          refine bindT_ok hb4 (rs2.mono r2 e3) rx fun σ4 rs4 off => ?_
          first
            | exact ⟨φ2, s4, h2, .nx, _, _, r3, rs4, hf, fun φ5 H5 σ5 e5 r5 rs5 => ⟨φ5, _, _, e2.trans (e3.trans e5), r5, rs5, ec2⟩⟩
            | exact ⟨φ2, s4, h2, .ct, _, _, r3, rs4, hf, fun φ5 H5 σ5 e5 r5 rs5 => ⟨φ5, _, _, e2.trans (e3.trans e5), r5, rs5, ec2⟩⟩
            | (cases ec2; exact ⟨φ2, s4, h2, .bk, _, _, r3, rs4, hf, fun φ5 H5 σ5 e5 r5 rs5 => f φ5 H5 σ5 (e1.trans (e2.trans (e3.trans e5))) r5 rs5⟩)
            | (cases ec2; exact ⟨φ2, s4, h2, .rt _, _, _, r3, rs4, hf, fun φ5 H5 σ5 e5 r5 rs5 => f φ5 H5 σ5 (e1.trans (e2.trans (e3.trans e5))) r5 rs5⟩)
end
end EV

set_option Elab.async false
set_option linter.all false
set_option maxRecDepth 100000
set_option maxHeartbeats 4000000
/-! EV12: from the text to the code that is evaluated. -/
namespace EV
open PySem PySem.Spec L2

def isStar : Expr → Bool
  | .Starred .. => true
  | _ => false
def locName (sc : Scope) (line : Nat) : Expr → Option Str
  | .Name id pos => if sc.names.lookup id == some .local && pos.line == line then some id else none
  | _ => none
/-- what an assignment of a tuple to a tuple swaps -/
def swp (ts vs : List Expr) (sc : Scope) : Option (Option (List Str)) :=
  if (!(ts.length == 2 || ts.length == 3) || vs.length != ts.length || (if sc.kind.isAnnotationScope then ScopeKind.function else sc.kind) != .function) = true then some none
  else if (vs.any isStar) = true then some none
  else
    let names := ts.filterMap (locName sc ((ts.head?.map (·.pos.line)).getD 0))
    if (names.length != ts.length || names.eraseDups.length != names.length) = true then some none
    else if (vs.all (foldedForSure 8)) = true then some none
    else if (vs.all (constantsAlone 8)) = true then none
    else some (some names)
theorem swp_ok {ts vs : List Expr} {env : Env} {pt pt2 : Pos} {kt k2 : Nat} {r : Option (List Str)} (h : swp ts vs env.scope = some r) : swappedStores [.Tuple ts kt pt] (.Tuple vs k2 pt2) env = pure r := by
  have hb : env.blockKind = (if env.scope.kind.isAnnotationScope then ScopeKind.function else env.scope.kind) := rfl
  unfold swp at h
  rw [← hb] at h
  unfold swappedStores
  by_cases c1 : (!(ts.length == 2 || ts.length == 3) || vs.length != ts.length || env.blockKind != .function) = true
  · rw [if_pos c1] at h
    cases h
    exact if_pos c1
  · rw [if_neg c1] at h
    refine (if_neg c1).trans ?_
    by_cases c2 : (vs.any isStar) = true
    · rw [if_pos c2] at h
      cases h
      refine if_pos ?_
      exact (congrArg (fun f : Expr → Bool => vs.any f = true) (funext fun e => by cases e <;> rfl)).mpr c2
    · rw [if_neg c2] at h
      refine (if_neg ((congrArg (fun f : Expr → Bool => ¬ vs.any f = true) (funext fun e => by cases e <;> rfl)).mpr c2)).trans ?_
      simp only at h
      by_cases c3 : ((ts.filterMap (locName env.scope ((ts.head?.map (·.pos.line)).getD 0))).length != ts.length || (ts.filterMap (locName env.scope ((ts.head?.map (·.pos.line)).getD 0))).eraseDups.length != (ts.filterMap (locName env.scope ((ts.head?.map (·.pos.line)).getD 0))).length) = true
      · rw [if_pos c3] at h
        cases h
        refine if_pos ?_
        exact (congrArg (fun f : Expr → Option Str => (((ts.filterMap f).length != ts.length || (ts.filterMap f).eraseDups.length != (ts.filterMap f).length) = true)) (funext fun e => by cases e <;> rfl)).mpr c3
      · rw [if_neg c3] at h
        refine (if_neg ((congrArg (fun f : Expr → Option Str => ¬ (((ts.filterMap f).length != ts.length || (ts.filterMap f).eraseDups.length != (ts.filterMap f).length) = true)) (funext fun e => by cases e <;> rfl)).mpr c3)).trans ?_
        by_cases c4 : (vs.all (foldedForSure 8)) = true
        · rw [if_pos c4] at h
          cases h
          exact if_pos c4
        · rw [if_neg c4] at h
          refine (if_neg c4).trans ?_
          by_cases c5 : (vs.all (constantsAlone 8)) = true
          · rw [if_pos c5] at h
            cases h
          · rw [if_neg c5] at h
            cases h
            refine (if_neg c5).trans ?_
            exact congrArg (fun f : Expr → Option Str => (pure (some (ts.filterMap f)) : Sem (Option (List Str)))) (funext fun e => by cases e <;> rfl)
/-- what a global name is -/
inductive GI where
  | fn (i : Nat) (np : Nat) (ds : List PV)
  | val (v : PV)
  | bfn (b : Fb)
  | kd (kvs : List (Str × PV))
structure Cc where
  N : List Str
  gl : List (Str × GI)
  sc : Scope
  bl : Option Scope

def slotOf : List Str → Str → Option Nat
  | [], _ => none
  | y :: ys, x => if x = y then some 0 else (slotOf ys x).map (· + 1)
theorem slotOf_ok : ∀ {N : List Str} {x : Str} {i : Nat}, slotOf N x = some i → N[i]? = some x
  | y :: ys, x, i, e => by
    unfold slotOf at e
    split at e
    · rename_i c
      cases e
      rw [c]; rfl
    · obtain ⟨j, h, rfl⟩ := Option.map_eq_some_iff.mp e
      simpa using slotOf_ok h
def visB (sc : Scope) (x : Str) : Bool := match sc.names.lookup x with
  | some .local => true
  | some .cell => true
  | some .free => true
  | _ => false
theorem visB_ok {sc : Scope} {x : Str} (h : visB sc x = true) : Vis sc x := by
  unfold visB at h
  unfold Vis
  split at h <;> simp_all
def okName (x : Str) : Bool := !(x == ("__debug__" : Str)) && !(x == ("__classdict__" : Str))
/-- whether a name is one that may be stored: the slot -/
def stoB (c : Cc) (x : Str) : Bool := match c.sc.names.lookup x with
  | some .local => true
  | some .cell => match c.bl with
    | none => true
    | some s0 => s0.names.lookup x == some .cell
  | _ => false

structure GOk (F : Ca) (c : Cc) (X : Cx) : Prop where
  calm : X.calm = true
  N : X.N = c.N
  nd : X.N.Nodup
  sc : X.env.scope = c.sc
  fnl : (c.bl = none → ∀ x, X.fn x = true) ∧ ∀ s0, c.bl = some s0 → ∀ x, s0.names.lookup x = some .cell → X.fn x = true
  grd : X.A.guards = some []
  un : X.A.units + 100 < cLine
  sm : ∃ o, X.base.get? sysModules = some o
  blt : ∀ x, x ∈ (["range", "enumerate", "len", "abs", "int", "max", "min", "tuple", "list", "repr", "sorted", "sum", "any", "all", "isinstance", "bool", "str", "dict", "zip", "set"] : List Str) → X.mg x = none
  fn : ∀ x i np ds, c.gl.lookup x = some (.fn i np ds) → ∃ k f fd ps, FnG X.prog X.w X.K X.mg X.base k f fd ps (spE X.K (F i)) ∧ Room k X.A ∧ X.mg x = some (.ref f) ∧ PySem.W.keepIn X.K (.ref f) = true ∧ ps.length = np ∧ BindE X.K fd ps ds
  val : ∀ x v, c.gl.lookup x = some (.val v) → ∃ u w, X.mg x = some u ∧ RelV w u ∧ ∀ φ H, RV X.K φ H v w
  bfn : ∀ x b, c.gl.lookup x = some (.bfn b) → X.mg x = some (.builtin (fbI b))
  kd : ∀ x kvs, c.gl.lookup x = some (.kd kvs) → ∃ q, X.mg x = some (.ref q) ∧ ∀ z v, kvs.lookup z = some v → ∃ w, KDct X.K X.w q z w ∧ ∀ φ H, RV X.K φ H v w

def kindIs (k : Option NameKind) (j : NameKind) : Bool := match k with
  | some k => decide (k = j)
  | none => false
theorem kindIs_ok {k : Option NameKind} {j : NameKind} (h : kindIs k j = true) : k = some j := by
  cases k with
  | none => cases h
  | some k => exact congrArg some (of_decide_eq_true h)
def isGl (c : Cc) (x : Str) : Bool := kindIs (c.sc.names.lookup x) .globalImplicit
def isBuiltin (c : Cc) (x : Str) : Bool := isGl c x && (c.gl.lookup x).isNone

def opOf : Operator → Option BOp
  | .Add => some .add | .Sub => some .sub | .Mult => some .mul | .FloorDiv => some .fdiv | .Mod => some .mod | .Pow => some .pow | .LShift => some .shl | .RShift => some .shr | .BitAnd => some .band | .BitOr => some .bor | .BitXor => some .bxor
  | _ => none
theorem opOf_ok {o : Operator} {b : BOp} (h : opOf o = some b) : o = bOp b := by cases o <;> simp [opOf] at h <;> subst h <;> rfl
def cmpOf : CmpOp → COp
  | .Eq => .eq | .NotEq => .ne | .Lt => .lt | .LtE => .le | .Gt => .gt | .GtE => .ge | .In => .isIn | .NotIn => .notIn | .Is => .is | .IsNot => .isNot
theorem cmpOf_ok (o : CmpOp) : o = cOp (cmpOf o) := by cases o <;> rfl
def biOf1 (x : Str) : Option Bi :=
  if x = "len" then some .len else if x = "abs" then some .abs else if x = "int" then some .int else if x = "max" then some .max else if x = "min" then some .min else if x = "tuple" then some .tuple
  else if x = "list" then some .list else if x = "repr" then some .repr else if x = "sorted" then some .sorted else if x = "sum" then some .sum else if x = "any" then some .any else if x = "all" then some .all else none
theorem biOf1_ok {x : Str} {b : Bi} (h : biOf1 x = some b) : x = biN b := by
  unfold biOf1 at h
  repeat (split at h; · (rename_i c; cases h; exact c))
  cases h
def biOf (x : Str) : Option Bi := if x = "set" then some .set else if x = "str" then some .str else if x = "dict" then some .dct else biOf1 x
theorem biOf_ok {x : Str} {b : Bi} (h : biOf x = some b) : x = biN b := by
  unfold biOf at h
  split at h
  · rename_i c
    cases h
    exact c
  split at h
  · rename_i c
    cases h
    exact c
  · split at h
    · rename_i c
      cases h
      exact c
    · exact biOf1_ok h
def meOf (x : Str) (n : Nat) : Option Me :=
  if x = "append" ∧ n = 1 then some .append else if x = "pop" ∧ n = 0 then some .pop else if x = "pop" ∧ n = 1 then some .popAt else if x = "extend" ∧ n = 1 then some .extend else if x = "index" ∧ n = 1 then some .index
  else if x = "get" ∧ n = 1 then some .get1 else if x = "get" ∧ n = 2 then some .get2 else if x = "pop" ∧ n = 2 then some .dpop2 else if x = "setdefault" ∧ n = 2 then some .dsetd else none
theorem meOf_ok {x : Str} {n : Nat} {m : Me} (h : meOf x n = some m) : x = meN m := by
  unfold meOf at h
  repeat (split at h; · (rename_i c; cases h; exact c.1))
  cases h
/-- an expression whose truth is its value's -/
def plainTest : Expr → Bool
  | .UnaryOp .Not _ _ => false
  | .BoolOp _ _ _ => false
  | .IfExp _ _ _ _ => false
  | .Compare _ _ _ _ => false
  | _ => true
theorem plainTest_ok {e : Expr} (h : plainTest e = true) (env : Env) : ∀ whole, isTrue e env whole = (do let v ← whole; standAt e.pos; holding [v] (truthy v)) := by
  intro whole
  cases e with
  | UnaryOp op a p => cases op <;> first | rfl | cases h
  | BoolOp _ _ _ => cases h
  | IfExp _ _ _ _ => cases h
  | Compare _ _ _ _ => cases h
  | _ => rfl
def notSl : Expr → Bool
  | .Slice _ _ _ _ => false
  | _ => true
theorem notSl_ix {b : Expr} (h : notSl b = true) : PlainIx b := by
  intro o i
  cases b <;> first | rfl | cases h
def notCall0 : Expr → Bool
  | .Call _ [] _ _ => false
  | _ => true
theorem notCall0_ok {o : Expr} (h : notCall0 o = true) (m : Str) (env : Env) : attributeBase o m env (eval o env) = eval o env := by
  cases o with
  | Call f args kw p =>
    cases args with
    | nil => cases h
    | cons a as => cases f <;> rfl
  | _ => rfl
def notSet : Expr → Bool
  | .Set _ _ _ => false
  | _ => true
theorem notSet_fold {e : Expr} (h : notSet e = true) (env : Env) : ∀ x, foldedSetIterable e env x = pure x := by
  intro x
  cases e <;> first | rfl | cases h
theorem notSet_in {e : Expr} (h : notSet e = true) (o : CmpOp) : behindInMarks o e = false := by
  cases e <;> first | rfl | cases h
def notComp : Expr → Bool
  | .ListComp _ _ _ _ | .SetComp _ _ _ _ | .DictComp _ _ _ _ _ => false
  | _ => true
theorem notComp_sw {e : Expr} (h : notComp e = true) (t : Option Expr) (l : Nat) (env : Env) : swapsWith e t l env = pure false := by
  cases e <;> first | rfl | cases h

def cEs (f : Expr → Option CE) : List Expr → Option CEs
  | [] => some .nil
  | .Starred e _ :: r => match f e, cEs f r with
    | some a, some b => some (.star a b)
    | _, _ => none
  | e :: r => match f e, cEs f r with
    | some a, some b => some (.cons a b)
    | _, _ => none
def cDs (f : Expr → Option CE) : List (Option Expr) → List Expr → Option CEs
  | [], [] => some .nil
  | some k :: ks, v :: vs => match f k, f v, cDs f ks vs with
    | some a, some b, some r => some (.cons a (.cons b r))
    | _, _, _ => none
  | _, _ => none
def cB (f : Expr → Option CE) (op : BoolOp) : List Expr → Option CE
  | [] => none
  | [a] => f a
  | a :: b :: r => match f a, cB f op (b :: r) with
    | some x, some y => some (match op with | .And => .and x y | .Or => .or x y)
    | _, _ => none
def cO (f : Expr → Option CE) : Option Expr → Option CE
  | none => some (.lit .non)
  | some e => f e
def cF (f : Expr → Option CE) : List Expr → Option CE
  | [] => some (CE.lit (.bl true))
  | [t] => f t
  | _ => none
def cNm (c : Cc) : Expr → Option Nat
  | .Name x _ => if stoB c x = true then slotOf c.N x else none
  | _ => none
def cT (c : Cc) : Expr → Option Tg
  | .Name x p => (cNm c (.Name x p)).map .nm
  | .Tuple es _ _ => (mapO (cNm c) es).map .tp
  | _ => none
def ownOf (N : List Str) (names : List (Str × NameKind)) : Option (List (Str × Nat)) :=
  some ((names.filter fun y => decide (y.2 = .local) || decide (y.2 = .cell)).filterMap fun y => (slotOf N y.1).map fun i => (y.1, i))
def isNm : Expr → Bool
  | .Name _ _ => true
  | _ => false
def isTup : Expr → Bool
  | .Tuple _ _ _ => true
  | _ => false

def cI (f : Expr → Option CE) (c : Cc) (tg : Expr) (e : Expr) : Option CI :=
  match e with
  | .Call (.Name x _) args [] _ =>
    if x = "range" ∧ isBuiltin c x = true then
      (if args.all isPlain = true ∧ (args.length = 1 ∨ args.length = 2 ∨ args.length = 3) then (cEs f args).map .rng else none)
    else if x = "enumerate" ∧ isBuiltin c x = true then
      (match args with
        | [a] => if isPlain a = true ∧ isTup tg = true then (f a).map .enum else none
        | _ => none)
    else if x = "zip" ∧ isBuiltin c x = true then
      (match args with
        | [a, b] => if isPlain a = true ∧ isPlain b = true ∧ (isTup tg || isNm tg) = true then (match f a, f b with
          | some x, some y => some (.zip false x y)
          | _, _ => none) else none
        | _ => none)
    else (f e).map .val
  | .Call (.Name x _) [a, b] [⟨some k, .Constant (.bool true) _ _, _⟩] _ =>
    if x = "zip" ∧ k = "strict" ∧ isBuiltin c x = true ∧ isPlain a = true ∧ isPlain b = true ∧ isTup tg = true then (match f a, f b with
      | some x, some y => some (.zip true x y)
      | _, _ => none) else none
  | .Call (.Attribute o m apos) [] [] pos =>
    if m = "items" then (if isTup tg = true ∧ notCall0 o = true ∧ (apos.endLine == pos.line) = true then (f o).map .items else none) else (f e).map .val
  | _ => (f e).map .val

def tyOf (x : Str) : Option Ty := if x = "int" then some .int else if x = "bool" then some .bool else if x = "str" then some .str else if x = "tuple" then some .tup else if x = "list" then some .lst else if x = "dict" then some .dct else none
theorem tyOf_ok {x : Str} {b : Ty} (h : tyOf x = some b) : x = tyN b := by
  unfold tyOf at h
  repeat (split at h; · (rename_i c; cases h; exact c))
  cases h
/-- isinstance(a, T) -/
def isA (c : Cc) (x : Str) : List Expr → Option (Ty × Expr)
  | [a, .Name t _] => if x = "isinstance" ∧ isBuiltin c t = true then (tyOf t).map fun y => (y, a) else none
  | _ => none
/-- a name of a dict of the text's -/
def kdA (c : Cc) : Expr → Option (List (Str × PV))
  | .Name x _ => if okName x = true ∧ visB c.sc x = false ∧ isGl c x = true then (match c.gl.lookup x with
    | some (.kd kvs) => some kvs
    | _ => none) else none
  | _ => none
/-- one argument, a range of one or two -/
def rgA (c : Cc) : List Expr → Option (List Expr)
  | [.Call (.Name r _) ras [] _] => if r = "range" ∧ isBuiltin c r = true ∧ ras.all isPlain = true ∧ (ras.length = 1 ∨ ras.length = 2) then some ras else none
  | _ => none
def cE : Nat → Cc → Expr → Option CE
  | 0, _, _ => none
  | n + 1, c, e => match e with
    | .Constant (.int i) _ _ => some (.lit (.int i))
    | .Constant (.bool b) _ _ => some (.lit (.bl b))
    | .Constant .none _ _ => some (.lit .non)
    | .Constant (.str x) _ _ => some (.lit (.str x))
    | .Name x _ => if okName x = true then (if visB c.sc x = true then (slotOf c.N x).map .var else if isGl c x = true then (match c.gl.lookup x with
        | some (.val v) => some (.lit v)
        | _ => none) else none) else none
    | .BinOp a op b _ => match opOf op, cE n c a, cE n c b with
      | some o, some x, some y => some (.bin o x y)
      | _, _, _ => none
    | .UnaryOp .USub a _ => (cE n c a).map .neg
    | .UnaryOp .Invert a _ => (cE n c a).map .inv
    | .UnaryOp .Not a _ => (cE n c a).map .nt
    | .BoolOp op vs _ => cB (cE n c) op vs
    | .Compare a [op] [b] _ => if notSet b = true then (match cE n c a, cE n c b with
      | some x, some y => some (.cmp (cmpOf op) x y)
      | _, _ => none) else none
    | .Compare a [op, op'] [b, b'] _ => if notSet b = true ∧ notSet b' = true then (match cE n c a, cE n c b, cE n c b' with
      | some x, some y, some z => some (.chn (cmpOf op) (cmpOf op') x y z)
      | _, _, _ => none) else none
    | .IfExp t a b _ => match cE n c t, cE n c a, cE n c b with
      | some z, some x, some y => some (.ife z x y)
      | _, _, _ => none
    | .Tuple es _ _ => (cEs (cE n c) es).map .tup
    | .List es _ => (cEs (cE n c) es).map .lst
    | .Dict [] [] _ => some (.dict .nil)
    | .Dict ks vs _ => if ks ≠ [] ∧ ks.length ≤ 15 then (cDs (cE n c) ks vs).map .dict else none
    | .Subscript a (.Slice none none (some (.UnaryOp .USub (.Constant (.int 1) _ _) _)) _) _ => (cE n c a).map .rev
    | .Subscript a (.Slice lo hi none _) _ => match cE n c a, cO (cE n c) lo, cO (cE n c) hi with
      | some x, some l, some u => some (.slc lo.isSome hi.isSome x l u)
      | _, _, _ => none
    | .Subscript a b _ => if notSl b = true then (match kdA c a with
      | some kvs => (cE n c b).map (.kix kvs)
      | none => match cE n c a, cE n c b with
        | some x, some y => some (.idx x y)
        | _, _ => none) else none
    | .Call (.Name x _) args [] _ => if okName x = true ∧ isGl c x = true ∧ args.all isPlain = true then
        (match c.gl.lookup x with
          | some (.fn i np ds) => match fillA np ds args.length, cEs (cE n c) args with
            | some dl, some cs => some (.call i (appL cs dl))
            | _, _ => none
          | some (.val _) => none
          | some (.kd _) => none
          | some (.bfn b) => match args with
            | [] => none
            | _ :: _ => (cEs (cE n c) args).map (.fb b)
          | none => match rgA c args with
            | some ras => if x = "tuple" then (cEs (cE n c) ras).map .tupR else if x = "list" then (cEs (cE n c) ras).map .lstR else none
            | none => match isA c x args with
              | some (t, a) => (cE n c a).map (.isI t)
              | none => match args, biOf x with
                | _ :: _, some b => (cEs (cE n c) args).map (.bi b)
                | _, _ => none) else none
    | .Call (.Attribute o m apos) args [] pos => if notCall0 o = true ∧ (apos.endLine == pos.line) = true ∧ args.all isPlain = true ∧ args.length < 29 then
        (match meOf m args.length, cE n c o, cEs (cE n c) args with
          | some m, some x, some xs => some (.meth m x xs)
          | _, _, _ => none) else none
    | .ListComp elt [⟨tg, iter, ifs, 0⟩] scope _ =>
      match ownOf c.N scope.names with
      | none => none
      | some own => if blkC c.N c.sc scope own = true ∧ notSet iter = true then
          (let c2 : Cc := { c with sc := relS scope c.sc, bl := some scope }
          match cI (cE n c) c tg iter, cT c2 tg, cF (cE n c2) ifs, cE n c2 elt with
            | some it, some t, some cc, some ce => if (tgS t).all (fun i => decide (i ∈ own.map (·.2))) = true then some (.comp ce t it cc (own.map (·.2))) else none
            | _, _, _, _ => none) else none
    | .ListComp elt [⟨tg, iter, [], 0⟩, ⟨tg1, iter1, [], 0⟩] scope _ =>
      match ownOf c.N scope.names with
      | none => none
      | some own => if blkC c.N c.sc scope own = true ∧ notSet iter = true ∧ notSet iter1 = true then
          (let c2 : Cc := { c with sc := relS scope c.sc, bl := some scope }
          match cI (cE n c) c tg iter, cT c2 tg, cI (cE n c2) c2 tg1 iter1, cT c2 tg1, cE n c2 elt with
            | some it, some t, some it1, some t1, some ce => if ((tgS t).all (fun i => decide (i ∈ own.map (·.2))) && (tgS t1).all (fun i => decide (i ∈ own.map (·.2)))) = true then some (.comp2 ce t it t1 it1 (own.map (·.2)) (tgS t1)) else none
            | _, _, _, _, _ => none) else none
    | .DictComp kx vx [⟨tg, iter, ifs, 0⟩] scope _ =>
      match ownOf c.N scope.names with
      | none => none
      | some own => if blkC c.N c.sc scope own = true ∧ notSet iter = true then
          (let c2 : Cc := { c with sc := relS scope c.sc, bl := some scope }
          match cI (cE n c) c tg iter, cT c2 tg, cF (cE n c2) ifs, cE n c2 kx, cE n c2 vx with
            | some it, some t, some cc, some ck, some cv => if (tgS t).all (fun i => decide (i ∈ own.map (·.2))) = true then some (.dcomp ck cv t it cc (own.map (·.2))) else none
            | _, _, _, _, _ => none) else none
    | _ => none
end EV

set_option Elab.async false
set_option linter.all false
set_option maxRecDepth 100000
set_option maxHeartbeats 4000000
/-! EV29: tuple(range(..)), list(range(..)). -/
namespace EV
open PySem PySem.Spec L2
section
variable {X : Cx} {F : Ca} {fu : Nat} {a b e : Expr} {ca cb : CE} {pos p p2 pos2 : Pos} {K : PySem.W.Frag} {φ : List Addr} {H : Hp}
theorem RVs.rg : ∀ {n : Nat} {lo : Int}, RVs K φ H (rangeL lo 1 n) ((List.range n).map fun i => V.int (lo + (i : Nat)))
  | 0, lo => .nil
  | n + 1, lo => by
    rw [List.range_succ_eq_map, List.map_cons, List.map_map, rangeL]
    refine .cons (by simpa using RV.int lo) ?_
    have := @RVs.rg n (lo + 1)
    have e : ((fun i : Nat => V.int (lo + (i : Nat))) ∘ Nat.succ) = fun i : Nat => V.int (lo + 1 + (i : Nat)) := by
      funext i
      simp only [Function.comp]
      congr 1
      push_cast
      omega
    rw [e]
    exact this
theorem rgV_eq {i j : Int} : rgV i j = (List.range (j - i).toNat).map fun k => V.int (i + (k : Nat)) := rfl
theorem rgOk_of {i j : Int} (hi : small62 i = true) (hj : small62 j = true) (hl : (rangeL i 1 (j - i).toNat).length ≤ sizeLine) : RgOk i j := by
  have a := two62 hi
  have b := two62 hj
  have z : ∀ (m : Nat) (lo st : Int), (rangeL lo st m).length = m := fun m => by
    induction m with
    | zero => intro lo st; rfl
    | succ m ih => intro lo st; rw [rangeL, List.length_cons, ih]
  rw [z] at hl
  exact ⟨a.1, a.2, b.1, b.2, hl⟩
theorem de_tupR1 (hc : X.calm = true) (hg : Gl X "tuple") (hm : X.mg "tuple" = none) (hgR : Gl X "range") (hmR : X.mg "range" = none) (ha : DE X F fu a ca) (hp : isPlain a = true) :
    DE X F fu (.Call (.Name "tuple" p) [.Call (.Name "range" p2) [a] [] pos2] [] pos) (.tupR (.cons ca .nil)) := by
  refine weakE (pe_tupRg hc hg hm (prg_1 hgR hmR ha (by rw [star_plain hp]))) fun σ H Q ⟨φ, se, h, v, h', r, rs, e, f⟩ => ?_
  simp only [ev, evs] at e
  split at e
  · cases e
  · rename_i xs h2 ex
    split at ex
    · cases ex
    · rename_i x h1 ex1
      cases ex
      split at e
      · cases e
      · rename_i ys ey
        obtain ⟨j, rfl, c, rfl⟩ := rangeOf1 ey
        unfold newT at e
        split at e
        · rename_i hz
          cases e
          refine ⟨φ, se, h, _, _, r, rs, ex1, fun φ1 H1 v1 e1 r1 rv => ?_⟩
          cases rv
          have z : (j - 0).toNat = j.toNat := by omega
          refine ⟨j, rfl, rgOk_of (by decide) c (by rw [z]; exact hz), fun q hq => (f.later e1).tup r1 ?_ hq⟩
          rw [rgV_eq, z]
          exact RVs.rg
        · cases e
theorem de_lstR1 (hc : X.calm = true) (hg : Gl X "list") (hm : X.mg "list" = none) (hgR : Gl X "range") (hmR : X.mg "range" = none) (ha : DE X F fu a ca) (hp : isPlain a = true) :
    DE X F fu (.Call (.Name "list" p) [.Call (.Name "range" p2) [a] [] pos2] [] pos) (.lstR (.cons ca .nil)) := by
  refine weakE (pe_listRg hc hg hm (prg_1 hgR hmR ha (by rw [star_plain hp]))) fun σ H Q ⟨φ, se, h, v, h', r, rs, e, f⟩ => ?_
  simp only [ev, evs] at e
  split at e
  · cases e
  · rename_i xs h2 ex
    split at ex
    · cases ex
    · rename_i x h1 ex1
      cases ex
      split at e
      · cases e
      · rename_i ys ey
        obtain ⟨j, rfl, c, rfl⟩ := rangeOf1 ey
        unfold newL new at e
        split at e
        · rename_i hz
          cases e
          refine ⟨φ, se, h, _, _, r, rs, ex1, fun φ1 H1 v1 e1 r1 rv => ?_⟩
          cases rv
          have z : (j - 0).toNat = j.toNat := by omega
          refine ⟨j, rfl, rgOk_of (by decide) c (by rw [z]; exact hz), fun q hq => (f.later e1).newLst r1 ?_ hq⟩
          rw [rgV_eq, z]
          exact RVs.rg
        · cases e
theorem de_tupR2 (hc : X.calm = true) (hg : Gl X "tuple") (hm : X.mg "tuple" = none) (hgR : Gl X "range") (hmR : X.mg "range" = none) (ha : DE X F fu a ca) (hb : DE X F fu b cb) (hp : isPlain a = true) (hp2 : isPlain b = true) :
    DE X F fu (.Call (.Name "tuple" p) [.Call (.Name "range" p2) [a, b] [] pos2] [] pos) (.tupR (.cons ca (.cons cb .nil))) := by
  refine weakE (pe_tupRg hc hg hm (prg_2 hgR hmR ha hb (by rw [star_plain hp]) (by rw [star_plain hp2]) (by rw [star_plain hp2]; rfl))) fun σ H Q ⟨φ, se, h, v, h', r, rs, e, f⟩ => ?_
  simp only [ev, evs] at e
  split at e
  · cases e
  · rename_i xs h2 ex
    split at ex
    · cases ex
    · rename_i x h1 ex1
      split at ex
      · cases ex
      · rename_i ys0 h3 ex2
        split at ex2
        · cases ex2
        · rename_i y h4 ex3
          cases ex2
          cases ex
          split at e
          · cases e
          · rename_i ys ey
            obtain ⟨i, j, rfl, rfl, c1, c2, rfl⟩ := rangeOf2 ey
            unfold newT at e
            split at e
            · rename_i hz
              cases e
              refine ⟨φ, se, h, _, _, r, rs, ex1, fun φ1 H1 v1 e1 r1 rv => ⟨φ1, se, h1, _, _, r1, rs.mono r e1, ex3, fun φ2 H2 v2 e2 r2 rv2 => ?_⟩⟩
              cases rv
              cases rv2
              refine ⟨i, j, rfl, rfl, rgOk_of c1 c2 hz, fun q hq => (f.later (e1.trans e2)).tup r2 ?_ hq⟩
              rw [rgV_eq]
              exact RVs.rg
            · cases e
theorem de_lstR2 (hc : X.calm = true) (hg : Gl X "list") (hm : X.mg "list" = none) (hgR : Gl X "range") (hmR : X.mg "range" = none) (ha : DE X F fu a ca) (hb : DE X F fu b cb) (hp : isPlain a = true) (hp2 : isPlain b = true) :
    DE X F fu (.Call (.Name "list" p) [.Call (.Name "range" p2) [a, b] [] pos2] [] pos) (.lstR (.cons ca (.cons cb .nil))) := by
  refine weakE (pe_listRg hc hg hm (prg_2 hgR hmR ha hb (by rw [star_plain hp]) (by rw [star_plain hp2]) (by rw [star_plain hp2]; rfl))) fun σ H Q ⟨φ, se, h, v, h', r, rs, e, f⟩ => ?_
  simp only [ev, evs] at e
  split at e
  · cases e
  · rename_i xs h2 ex
    split at ex
    · cases ex
    · rename_i x h1 ex1
      split at ex
      · cases ex
      · rename_i ys0 h3 ex2
        split at ex2
        · cases ex2
        · rename_i y h4 ex3
          cases ex2
          cases ex
          split at e
          · cases e
          · rename_i ys ey
            obtain ⟨i, j, rfl, rfl, c1, c2, rfl⟩ := rangeOf2 ey
            unfold newL new at e
            split at e
            · rename_i hz
              cases e
              refine ⟨φ, se, h, _, _, r, rs, ex1, fun φ1 H1 v1 e1 r1 rv => ⟨φ1, se, h1, _, _, r1, rs.mono r e1, ex3, fun φ2 H2 v2 e2 r2 rv2 => ?_⟩⟩
              cases rv
              cases rv2
              refine ⟨i, j, rfl, rfl, rgOk_of c1 c2 hz, fun q hq => (f.later (e1.trans e2)).newLst r2 ?_ hq⟩
              rw [rgV_eq]
              exact RVs.rg
            · cases e
end
end EV

set_option Elab.async false
set_option linter.all false
set_option maxRecDepth 100000
set_option maxHeartbeats 8000000
/-! EV13: the code that is made of an expression is a reading of it. -/
namespace EV
open PySem PySem.Spec L2
section
variable {X : Cx} {F : Ca} {fu : Nat} {c : Cc}

theorem GOk.blk (g : GOk F c X) (s : Shared) (H : Hp) (scope : Scope) (C : Addr) (cl : List (Str × Addr)) (fp : List Addr) :
    GOk F { c with sc := relS scope c.sc, bl := some scope } (X.blk s H scope (compEnvC scope cl C X.env) fp) where
  calm := g.calm
  N := g.N
  nd := g.nd
  sc := by
    show relS scope X.env.scope = relS scope c.sc
    rw [g.sc]
  fnl := ⟨fun h => (by cases h), fun s0 h x hx => by
    cases h
    show (scope.names.lookup x == some NameKind.cell) = true
    rw [hx]; rfl⟩
  grd := g.grd
  un := g.un
  sm := g.sm
  blt := g.blt
  bfn := g.bfn
  kd := g.kd
  fn := g.fn
  val := g.val

theorem dt_ife {a b t : Expr} {ca cb ct : CE} {pos : Pos} (hc : DT X F fu t ct) (ha : DT X F fu a ca) (hb : DT X F fu b cb) : DT X F fu (.IfExp t a b pos) (.ife ct ca cb) := by
  refine ⟨fun pins s σ H Q I ⟨φ, se, h, v, h', bb, r, rs, e, et, f⟩ => ?_⟩
  simp only [ev] at e
  show wpAny (model X.prog X.w) X.A (do if ← isTrue t X.env (eval t X.env) then isTrue a X.env (eval a X.env) else isTrue b X.env (eval b X.env)) (TP X pins σ Q) X.xe s
  split at e
  · cases e
  · rename_i x h1 ex
    split at e
    · cases e
    · rename_i ed
      refine wpAny_bind (thn (hc.run pins s σ H (fun d H1 => d = true ∧ ∃ φ1, Ext φ H φ1 H1 ∧ Rep X.K φ1 H1 h1) I ⟨φ, se, h, x, h1, true, r, rs, ex, ed, fun φ1 H1 e1 r1 => ⟨rfl, φ1, e1, r1⟩⟩) fun d s1 ⟨H1, I1, hd, φ1, e1, r1⟩ => ?_)
      subst hd
      exact ha.run pins s1 σ H1 Q I1 ⟨φ1, se, h1, v, h', bb, r1, rs.mono r e1, e, et, fun φ2 H2 e2 r2 => f φ2 H2 (e1.trans e2) r2⟩
    · rename_i ed
      refine wpAny_bind (thn (hc.run pins s σ H (fun d H1 => d = false ∧ ∃ φ1, Ext φ H φ1 H1 ∧ Rep X.K φ1 H1 h1) I ⟨φ, se, h, x, h1, false, r, rs, ex, ed, fun φ1 H1 e1 r1 => ⟨rfl, φ1, e1, r1⟩⟩) fun d s1 ⟨H1, I1, hd, φ1, e1, r1⟩ => ?_)
      subst hd
      exact hb.run pins s1 σ H1 Q I1 ⟨φ1, se, h1, v, h', bb, r1, rs.mono r e1, e, et, fun φ2 H2 e2 r2 => f φ2 H2 (e1.trans e2) r2⟩

theorem cEs_plain {f : Expr → Option CE} {e0 : Expr} {r : List Expr} {cs : CEs} (hp : isPlain e0 = true) (e : cEs f (e0 :: r) = some cs) : ∃ a b, f e0 = some a ∧ cEs f r = some b ∧ cs = .cons a b := by
  have z : cEs f (e0 :: r) = match f e0, cEs f r with
      | some a, some b => some (.cons a b)
      | _, _ => none := by cases e0 <;> first | rfl | cases hp
  rw [z] at e
  split at e
  · rename_i a b ha hb
    cases e
    exact ⟨a, b, ha, hb, rfl⟩
  · cases e
theorem cEs_ok {f : Expr → Option CE} (hf : ∀ e ce, f e = some ce → DE X F fu e ce) : ∀ (es : List Expr) (cs : CEs), cEs f es = some cs → DA X F fu es cs
  | [], cs, e => by cases e; exact da_nil
  | e0 :: r, cs, e => by
    by_cases hp : isPlain e0 = true
    · have z : cEs f (e0 :: r) = match f e0, cEs f r with
          | some a, some b => some (.cons a b)
          | _, _ => none := by cases e0 <;> first | rfl | cases hp
      rw [z] at e
      split at e
      · rename_i a b ha hb
        cases e
        exact da_cons (hf _ _ ha) (cEs_ok hf r b hb) (star_plain hp)
      · cases e
    · cases e0 <;> first | (exact absurd rfl hp) | skip
      rename_i e1 p
      simp only [cEs] at e
      split at e
      · rename_i a b ha hb
        cases e
        exact da_star (hf _ _ ha) (cEs_ok hf r b hb)
      · cases e
theorem cDs_ok {f : Expr → Option CE} {pos : Pos} (hf : ∀ e ce, f e = some ce → DE X F fu e ce) : ∀ (ks : List (Option Expr)) (vs : List Expr) (cs : CEs), cDs f ks vs = some cs → DP X F fu pos ks vs cs
  | [], [], cs, e => by cases e; exact dp_nil
  | some k :: ks, v :: vs, cs, e => by
    simp only [cDs] at e
    split at e
    · rename_i a b r ha hb hr
      cases e
      exact dp_cons (hf _ _ ha) (hf _ _ hb) (cDs_ok hf ks vs r hr)
    · cases e
  | none :: _, _, _, e => by cases e
  | [], _ :: _, _, e => by cases e
  | some _ :: _, [], _, e => by cases e
theorem cB_ok {f : Expr → Option CE} {op : BoolOp} {pos : Pos} (hf : ∀ e ce, f e = some ce → DE X F fu e ce ∧ DT X F fu e ce) : ∀ (vs : List Expr) (ce : CE), cB f op vs = some ce → DE X F fu (.BoolOp op vs pos) ce ∧ DW X F fu (.BoolOp op vs pos) ce
  | [], _, e => by cases e
  | [a], ce, e => by
    obtain ⟨h1, h2⟩ := hf a ce e
    refine ⟨pe_one h1, ?_⟩
    cases op with
    | And => exact dw_and1 h2
    | Or => exact dw_or1 h2
  | a :: b :: r, ce, e => by
    simp only [cB] at e
    split at e
    · rename_i x y hx hy
      obtain ⟨h1, h2⟩ := hf a x hx
      obtain ⟨h3, h4⟩ := cB_ok (op := op) (pos := pos) hf (b :: r) y hy
      cases op with
      | And => cases e; exact ⟨de_and h1 h3, dw_and h2 h4⟩
      | Or => cases e; exact ⟨de_or h1 h3, dw_or h2 h4⟩
    · cases e
theorem sto_ok (g : GOk F c X) {x : Str} (h : stoB c x = true) : Loc X.env.scope x ∧ (X.fn x = true ∨ X.env.scope.names.lookup x = some .local) := by
  unfold stoB at h
  rw [← g.sc] at h
  split at h
  · rename_i e; exact ⟨.inl e, .inr e⟩
  · rename_i e
    refine ⟨.inr e, .inl ?_⟩
    split at h
    · rename_i e2; exact g.fnl.1 e2 x
    · rename_i s0 e2
      exact g.fnl.2 s0 e2 x (by simpa using h)
  · cases h
theorem cNm_ok (g : GOk F c X) {e : Expr} {i : Nat} (h : cNm c e = some i) : PG X e (gName i) ∧ (∀ es env, assignEach (e :: es) env = (false, assign e env) :: assignEach es env) ∧ ∃ x p, e = .Name x p := by
  unfold cNm at h
  split at h
  · rename_i x p
    split at h
    · rename_i hs
      obtain ⟨h1, h2⟩ := sto_ok g hs
      exact ⟨pg_name g.nd (by rw [g.N]; exact slotOf_ok h) h1 h2, fun _ _ => rfl, _, _, rfl⟩
    · cases h
  · cases h
theorem cNms_ok (g : GOk F c X) : ∀ {es : List Expr} {is : List Nat}, mapO (cNm c) es = some is → PGs X es (gNames is) ∧ (assignEach es X.env).length = is.length ∧ (assignEach es X.env).findIdx? (·.1) = none
  | [], _, e => by cases e; exact ⟨pgs_nil, rfl, rfl⟩
  | e0 :: es, _, e => by
    unfold mapO at e
    split at e
    · cases e
    · rename_i i hi
      split at e
      · cases e
      · rename_i is his
        cases e
        obtain ⟨p1, p2, _⟩ := cNm_ok g hi
        obtain ⟨q1, q2, q3⟩ := cNms_ok g his
        refine ⟨pgs_cons p1 q1 (by rw [p2]; rfl), by rw [p2, List.length_cons, List.length_cons, q2], ?_⟩
        rw [p2, List.findIdx?_cons, q3]
        rfl
theorem cT_ok (g : GOk F c X) {tg : Expr} {t : Tg} (h : cT c tg = some t) : PG X tg (gTG X.K t) := by
  unfold cT at h
  split at h
  · obtain ⟨i, hi, rfl⟩ := Option.map_eq_some_iff.mp h
    exact (cNm_ok g hi).1
  · obtain ⟨is, his, rfl⟩ := Option.map_eq_some_iff.mp h
    obtain ⟨q1, q2, q3⟩ := cNms_ok g his
    exact pg_tup g.calm q1 q2 q3
  · cases h
theorem cTA_ok (g : GOk F c X) {ts : List Expr} {kt : Nat} {pt : Pos} {is : List Nat} (h : mapO (cNm c) ts = some is) : PG X (.Tuple ts kt pt) (gTA X.K is) := by
  obtain ⟨q1, q2, q3⟩ := cNms_ok g h
  exact pg_or (pg_tup g.calm q1 q2 q3) (pg_unl g.calm q1 q2 q3)
theorem gl_ok (g : GOk F c X) {x : Str} (h : isGl c x = true) : Gl X x := by
  have := kindIs_ok h
  rw [← g.sc] at this
  exact this
theorem cI_ok {f : Expr → Option CE} (g : GOk F c X) (hf : ∀ e ce, f e = some ce → DE X F fu e ce) {tg e : Expr} {ci : CI} (h : cI f c tg e = some ci) : DI X F fu tg e ci := by
  unfold cI at h
  split at h
  · rename_i x p args pos
    split at h
    · rename_i hx
      obtain ⟨rfl, hb⟩ := hx
      unfold isBuiltin at hb
      rw [Bool.and_eq_true] at hb
      have hg := gl_ok g hb.1
      have hm : X.mg "range" = none := g.blt _ (by simp)
      split at h
      · rename_i hp
        obtain ⟨cs, hcs, rfl⟩ := Option.map_eq_some_iff.mp h
        have da := cEs_ok hf args cs hcs
        obtain ⟨hp1, hp2⟩ := hp
        match args, hp1, hp2, hcs, da with
        | [a], hp1, _, hcs, da =>
          simp only [List.all_cons, List.all_nil, Bool.and_true] at hp1
          obtain ⟨ca, cr, h1, h2, rfl⟩ := cEs_plain hp1 hcs
          cases h2
          exact di_rng1 hg hm da hp1
        | [a, b], hp1, _, hcs, da =>
          simp only [List.all_cons, List.all_nil, Bool.and_true, Bool.and_eq_true] at hp1
          obtain ⟨ca, cr, h1, h2, rfl⟩ := cEs_plain hp1.1 hcs
          obtain ⟨cb, cr, h3, h4, rfl⟩ := cEs_plain hp1.2 h2
          cases h4
          exact di_rng2 hg hm da hp1.1 hp1.2
        | [a, b, d], hp1, _, hcs, da =>
          have hp0 := hp1
          simp only [List.all_cons, List.all_nil, Bool.and_true, Bool.and_eq_true] at hp1
          obtain ⟨ca, cr, h1, h2, rfl⟩ := cEs_plain hp1.1 hcs
          obtain ⟨cb, cr, h3, h4, rfl⟩ := cEs_plain hp1.2.1 h2
          obtain ⟨cd, cr, h5, h6, rfl⟩ := cEs_plain hp1.2.2 h4
          cases h6
          exact di_rng3 hg hm da hp0
      · cases h
    · split at h
      · rename_i hx
        obtain ⟨rfl, hb⟩ := hx
        unfold isBuiltin at hb
        rw [Bool.and_eq_true] at hb
        have hg := gl_ok g hb.1
        have hm : X.mg "enumerate" = none := g.blt _ (by simp)
        split at h
        · rename_i a
          split at h
          · rename_i hp
            obtain ⟨ca, hca, rfl⟩ := Option.map_eq_some_iff.mp h
            cases tg <;> first | (exact absurd hp.2 Bool.false_ne_true) | skip
            exact di_enum hg hm (hf _ _ hca) hp.1
          · cases h
        · cases h
      · split at h
        · rename_i hx
          obtain ⟨rfl, hb⟩ := hx
          unfold isBuiltin at hb
          rw [Bool.and_eq_true] at hb
          have hg := gl_ok g hb.1
          have hm : X.mg "zip" = none := g.blt _ (by simp)
          split at h
          · rename_i a b
            split at h
            · rename_i hp
              split at h
              · rename_i ca cb hca hcb
                cases h
                cases tg <;> first | (exact absurd hp.2.2 Bool.false_ne_true) | (exact di_zip hg hm (hf _ _ hca) (hf _ _ hcb) hp.1 hp.2.1) | (exact di_zipN hg hm (hf _ _ hca) (hf _ _ hcb) hp.1 hp.2.1)
              · cases h
            · cases h
          · cases h
        · obtain ⟨ca, hca, rfl⟩ := Option.map_eq_some_iff.mp h
          exact di_val (hf _ _ hca)
  · rename_i x px a b k kf cp kp pos
    split at h
    · rename_i hp
      obtain ⟨rfl, rfl, hb, hp1, hp2, hp3⟩ := hp
      unfold isBuiltin at hb
      rw [Bool.and_eq_true] at hb
      have hg := gl_ok g hb.1
      have hm : X.mg "zip" = none := g.blt _ (by simp)
      split at h
      · rename_i ca cb hca hcb
        cases h
        cases tg <;> first | (exact absurd hp3 Bool.false_ne_true) | skip
        exact di_zipS hg hm (hf _ _ hca) (hf _ _ hcb) hp1 hp2
      · cases h
    · cases h
  · rename_i o m apos pos
    split at h
    · rename_i hm
      subst hm
      split at h
      · rename_i hp
        obtain ⟨ca, hca, rfl⟩ := Option.map_eq_some_iff.mp h
        cases tg <;> first | (exact absurd hp.1 Bool.false_ne_true) | skip
        exact di_items (hf _ _ hca) (notCall0_ok hp.2.1 _ _) hp.2.2
      · cases h
    · obtain ⟨ca, hca, rfl⟩ := Option.map_eq_some_iff.mp h
      exact di_val (hf _ _ hca)
  · obtain ⟨ca, hca, rfl⟩ := Option.map_eq_some_iff.mp h
    exact di_val (hf _ _ hca)

theorem cO_ok {f : Expr → Option CE} (hf : ∀ e ce, f e = some ce → DE X F fu e ce) {o : Option Expr} {ce : CE} (h : cO f o = some ce) : PO X o (tO X.K o.isSome (ev F fu ce)) := by
  cases o with
  | none => cases h; exact do_none
  | some e => exact do_some (hf e ce h)

theorem rgA_inv {args ras : List Expr} (h : rgA c args = some ras) : ∃ p2 pos2, args = [.Call (.Name "range" p2) ras [] pos2] ∧ isGl c "range" = true ∧ ras.all isPlain = true ∧ (ras.length = 1 ∨ ras.length = 2) := by
  unfold rgA at h
  split at h
  · split at h
    · rename_i hk
      cases h
      obtain ⟨rfl, h2, h3, h4⟩ := hk
      unfold isBuiltin at h2
      rw [Bool.and_eq_true] at h2
      exact ⟨_, _, rfl, h2.1, h3, h4⟩
    · cases h
  · cases h
theorem cF_ok {f : Expr → Option CE} {es : List Expr} {ce : CE} (hf : ∀ e ce, f e = some ce → DT X F fu e ce) (h : cF f es = some ce) : PTs X es (tT X.K (ev F fu ce)) := by
  match es, h with
  | [], h =>
    cases h
    refine ⟨fun pins s σ H Q I ⟨φ, se, h, v, h', bb, r, rs, e, et, f⟩ => ?_⟩
    simp only [ev] at e
    cases e
    cases et
    exact pts_nil.run pins s σ H Q I (f φ H (Ext.refl _ _) r)
  | [t], h => exact pts_one (hf _ _ h)
  | _ :: _ :: _, h => cases h
theorem dt_of {e : Expr} {ce : CE} (hp : plainTest e = true) (h : DE X F fu e ce) : DE X F fu e ce ∧ DT X F fu e ce := ⟨h, dt_val h (plainTest_ok hp X.env)⟩
/-- expressions -/
theorem cE_ok : ∀ (n : Nat) (c : Cc) (e : Expr) (ce : CE), cE n c e = some ce → ∀ (X : Cx), GOk F c X → DE X F fu e ce ∧ DT X F fu e ce
  | 0, _, _, _, h, _, _ => by cases h
  | n + 1, c, e, ce, h, X, g => by
    have ih : ∀ e ce, cE n c e = some ce → DE X F fu e ce ∧ DT X F fu e ce := fun e ce h => cE_ok n c e ce h X g
    have ihE : ∀ e ce, cE n c e = some ce → DE X F fu e ce := fun e ce h => (ih e ce h).1
    have un := g.un
    cases e with
    | Constant v k p =>
      cases v <;> simp only [cE] at h <;> first | (cases h; done) | (refine dt_of rfl ?_; cases h)
      · exact de_lit pe_non fun _ _ => .non
      · exact de_lit pe_bl fun _ _ => .bl _
      · exact de_lit pe_int fun _ _ => .int _
      · exact de_lit pe_str fun _ _ => .str _
    | Name x p =>
      simp only [cE] at h
      refine dt_of rfl ?_
      split at h
      · rename_i hk
        unfold okName at hk
        rw [Bool.and_eq_true] at hk
        split at h
        · rename_i hv
          obtain ⟨i, hi, rfl⟩ := Option.map_eq_some_iff.mp h
          exact de_var (by rw [g.N]; exact slotOf_ok hi) (by rw [g.sc]; exact visB_ok hv) (by simpa using hk.1) (by simpa using hk.2)
        · split at h
          · rename_i hgl
            split at h
            · rename_i v hv
              cases h
              obtain ⟨u, w, h1, h2, h3⟩ := g.val _ _ hv
              exact de_lit (pe_glob (gl_ok g hgl) h1 h2 (by simpa using hk.1)) h3
            · cases h
          · cases h
      · cases h
    | BinOp a op b p =>
      simp only [cE] at h
      refine dt_of rfl ?_
      split at h
      · rename_i o x y ho hx hy
        cases h
        rw [opOf_ok ho]
        obtain ⟨r, h1, h2⟩ := opB_ok (X := X) o
        exact de_bin h1 h2 (ihE _ _ hx) (ihE _ _ hy)
      · cases h
    | UnaryOp op a p =>
      cases op <;> simp only [cE] at h <;> first | (cases h; done) | skip
      · obtain ⟨x, hx, rfl⟩ := Option.map_eq_some_iff.mp h
        exact dt_of rfl (de_inv (ihE _ _ hx))
      · obtain ⟨x, hx, rfl⟩ := Option.map_eq_some_iff.mp h
        exact ⟨de_not (ihE _ _ hx), dt_not (ih _ _ hx).2⟩
      · obtain ⟨x, hx, rfl⟩ := Option.map_eq_some_iff.mp h
        exact dt_of rfl (de_neg (ihE _ _ hx))
    | BoolOp op vs p =>
      simp only [cE] at h
      obtain ⟨h1, h2⟩ := cB_ok (pos := p) ih vs ce h
      exact ⟨h1, h2.pt⟩
    | Compare a ops bs p =>
      match ops, bs, h with
      | [op], [b], h =>
        simp only [cE] at h
        split at h
        · rename_i hs
          split at h
          · rename_i x y hx hy
            cases h
            obtain ⟨o, rfl⟩ : ∃ o, op = cOp o := ⟨_, cmpOf_ok op⟩
            have eo : cmpOf (cOp o) = o := by cases o <;> rfl
            rw [eo]
            obtain ⟨r, h1, h2⟩ := opC_ok (X := X) (by omega) o
            have hm := notSet_in hs (cOp o)
            exact ⟨de_cmp h1 h2 (ihE _ _ hx) (ihE _ _ hy) hm, dt_cmp h1 h2 (ihE _ _ hx) (ihE _ _ hy) hm⟩
          · cases h
        · cases h
      | [op, op'], [b, b'], h =>
        simp only [cE] at h
        split at h
        · rename_i hs
          split at h
          · rename_i x y z hx hy hz
            cases h
            obtain ⟨o, rfl⟩ : ∃ o, op = cOp o := ⟨_, cmpOf_ok op⟩
            obtain ⟨o', rfl⟩ : ∃ o, op' = cOp o := ⟨_, cmpOf_ok op'⟩
            have eo : cmpOf (cOp o) = o := by cases o <;> rfl
            have eo' : cmpOf (cOp o') = o' := by cases o' <;> rfl
            rw [eo, eo']
            obtain ⟨r, h1, h2⟩ := opC_ok (X := X) (by omega) o
            obtain ⟨r', h3, h4⟩ := opC_ok (X := X) (by omega) o'
            have hm : lastMarks [cOp o, cOp o'] [b, b'] = false := notSet_in hs.2 (cOp o')
            exact ⟨de_chn h1 h2 h3 h4 (ihE _ _ hx) (ihE _ _ hy) (ihE _ _ hz) hm, dt_chn h1 h2 h3 h4 (ihE _ _ hx) (ihE _ _ hy) (ihE _ _ hz) hm⟩
          · cases h
        · cases h
      | [], _, h => simp [cE] at h
      | [_, _], [], h => simp [cE] at h
      | [_, _], [_], h => simp [cE] at h
      | [_, _], _ :: _ :: _ :: _, h => simp [cE] at h
      | _ :: _ :: _ :: _, _, h => simp [cE] at h
      | [_], [], h => simp [cE] at h
      | [_], _ :: _ :: _, h => simp [cE] at h
    | IfExp t a b p =>
      simp only [cE] at h
      split at h
      · rename_i z x y hz hx hy
        cases h
        exact ⟨de_ife (ih _ _ hz).2 (ihE _ _ hx) (ihE _ _ hy), dt_ife (ih _ _ hz).2 (ih _ _ hx).2 (ih _ _ hy).2⟩
      · cases h
    | Tuple es k p =>
      simp only [cE] at h
      obtain ⟨cs, hcs, rfl⟩ := Option.map_eq_some_iff.mp h
      exact dt_of rfl (de_tup (cEs_ok ihE es cs hcs))
    | List es p =>
      simp only [cE] at h
      obtain ⟨cs, hcs, rfl⟩ := Option.map_eq_some_iff.mp h
      exact dt_of rfl (de_lst (cEs_ok ihE es cs hcs))
    | Dict ks vs p =>
      refine dt_of rfl ?_
      by_cases h00 : ks = [] ∧ vs = []
      · obtain ⟨rfl, rfl⟩ := h00
        simp only [cE] at h
        cases h
        exact de_dict0
      · have z : cE (n + 1) c (.Dict ks vs p) = if ks ≠ [] ∧ ks.length ≤ 15 then (cDs (cE n c) ks vs).map .dict else none := by
          cases ks with
          | nil =>
            cases vs with
            | nil => exact absurd ⟨rfl, rfl⟩ h00
            | cons v vs => rfl
          | cons k ks => rfl
        rw [z] at h
        split at h
        · rename_i hk
          obtain ⟨cs, hcs, rfl⟩ := Option.map_eq_some_iff.mp h
          exact de_dict (cDs_ok ihE ks vs cs hcs) hk.1 hk.2
        · cases h
    | Subscript a b p =>
      refine dt_of rfl ?_
      have gen : notSl b = true → cE (n + 1) c (.Subscript a b p) = some ce → DE X F fu (.Subscript a b p) ce := fun hb h => by
        have z : cE (n + 1) c (.Subscript a b p) = match kdA c a with
            | some kvs => (cE n c b).map (.kix kvs)
            | none => match cE n c a, cE n c b with
              | some x, some y => some (.idx x y)
              | _, _ => none := by cases b <;> first | rfl | cases hb
        rw [z] at h
        split at h
        · rename_i kvs hkd
          obtain ⟨x, hx, rfl⟩ := Option.map_eq_some_iff.mp h
          unfold kdA at hkd
          split at hkd
          · rename_i nm pn
            split at hkd
            · rename_i hk
              obtain ⟨hk1, hk2, hk3⟩ := hk
              unfold okName at hk1
              rw [Bool.and_eq_true] at hk1
              split at hkd
              · rename_i kvs' hkv
                cases hkd
                obtain ⟨q, q1, q2⟩ := g.kd _ _ hkv
                exact de_kix (gl_ok g hk3) q1 q2 (by simpa using hk1.1) (ihE _ _ hx) (notSl_ix hb)
              · cases hkd
            · cases hkd
          · cases hkd
        split at h
        · rename_i x y hx hy
          cases h
          obtain ⟨r, h1, h2⟩ := ix_ok (X := X) (by omega)
          exact de_ix h1 h2 (ihE _ _ hx) (ihE _ _ hy) (notSl_ix hb)
        · cases h
      by_cases hb : notSl b = true
      · exact gen hb h
      · cases b <;> first | (exact absurd rfl hb) | skip
        rename_i lo hi st p2
        have slc : st = none → DE X F fu (.Subscript a (.Slice lo hi st p2) p) ce := fun hst => by
          subst hst
          have z : cE (n + 1) c (.Subscript a (.Slice lo hi none p2) p) = match cE n c a, cO (cE n c) lo, cO (cE n c) hi with
              | some x, some l, some u => some (.slc lo.isSome hi.isSome x l u)
              | _, _, _ => none := by cases lo <;> cases hi <;> rfl
          rw [z] at h
          split at h
          · rename_i x l u hx hl hu
            cases h
            obtain ⟨r, h1, h2⟩ := sl_ok (X := X)
            exact de_slc h1 h2 (ihE _ _ hx) (cO_ok ihE hl) (cO_ok ihE hu)
          · cases h
        cases st with
        | none => exact slc rfl
        | some st =>
          unfold cE at h
          split at h <;> first | (rename_i hh; cases hh; done) | skip
          all_goals rename_i hh
          all_goals first
            | (cases hh
               obtain ⟨x, hx, rfl⟩ := Option.map_eq_some_iff.mp h
               exact de_rev (ihE _ _ hx))
            | (cases hh; simp [notSl] at h; done)
            | cases h
    | Call f args kw p =>
      refine dt_of rfl ?_
      cases kw with
      | cons k ks => cases f <;> simp [cE] at h
      | nil =>
        cases f with
        | Name x p0 =>
          simp only [cE] at h
          split at h
          · rename_i hk
            obtain ⟨hk1, hk2, hk3⟩ := hk
            unfold okName at hk1
            rw [Bool.and_eq_true] at hk1
            have hd : (x == ("__debug__" : Str)) = false := by simpa using hk1.1
            have hgl := gl_ok g hk2
            split at h
            · rename_i i np ds hi
              split at h
              · rename_i dl cs hfl hcs
                cases h
                obtain ⟨k, f, fd, ps, G, hr, hm, hkp, hln, hb⟩ := g.fn _ _ _ _ hi
                subst hln
                cases args with
                | nil => cases hcs; exact de_call0 G hr g.grd hgl hm hkp hb hfl hd
                | cons a es => exact de_call G hr g.grd hgl hm hkp hb hfl (cEs_ok ihE _ _ hcs) hd hk3
              · cases h
            · cases h
            · cases h
            · rename_i b hi
              split at h
              · cases h
              · obtain ⟨cs, hcs, rfl⟩ := Option.map_eq_some_iff.mp h
                obtain ⟨r, h1, h2⟩ := fb_ok (X := X) b
                exact de_fb h1 h2 hgl (g.bfn _ _ hi) (cEs_ok ihE _ _ hcs) hk3 hd
            · rename_i hn
              split at h
              · rename_i ras hra
                obtain ⟨p2, pos2, rfl, hR, hpl, hlen⟩ := rgA_inv hra
                have hgR := gl_ok g hR
                have mR : X.mg "range" = none := g.blt _ (by simp)
                split at h
                · rename_i hx
                  subst hx
                  obtain ⟨cs, hcs, rfl⟩ := Option.map_eq_some_iff.mp h
                  have hm : X.mg "tuple" = none := g.blt _ (by simp)
                  match ras, hlen, hpl, hcs with
                  | [a], _, hpl, hcs =>
                    have hp1 : isPlain a = true := by simpa using hpl
                    obtain ⟨x1, x2, e1, e2, rfl⟩ := cEs_plain hp1 hcs
                    cases e2
                    exact de_tupR1 g.calm hgl hm hgR mR (ihE _ _ e1) hp1
                  | [a, b], _, hpl, hcs =>
                    have hp1 : isPlain a = true ∧ isPlain b = true := by simpa using hpl
                    obtain ⟨x1, x2, e1, e2, rfl⟩ := cEs_plain hp1.1 hcs
                    obtain ⟨x3, x4, e3, e4, rfl⟩ := cEs_plain hp1.2 e2
                    cases e4
                    exact de_tupR2 g.calm hgl hm hgR mR (ihE _ _ e1) (ihE _ _ e3) hp1.1 hp1.2
                  | [], hlen, _, _ => simp at hlen
                  | _ :: _ :: _ :: _, hlen, _, _ => simp at hlen
                · split at h
                  · rename_i hx
                    subst hx
                    obtain ⟨cs, hcs, rfl⟩ := Option.map_eq_some_iff.mp h
                    have hm : X.mg "list" = none := g.blt _ (by simp)
                    match ras, hlen, hpl, hcs with
                    | [a], _, hpl, hcs =>
                      have hp1 : isPlain a = true := by simpa using hpl
                      obtain ⟨x1, x2, e1, e2, rfl⟩ := cEs_plain hp1 hcs
                      cases e2
                      exact de_lstR1 g.calm hgl hm hgR mR (ihE _ _ e1) hp1
                    | [a, b], _, hpl, hcs =>
                      have hp1 : isPlain a = true ∧ isPlain b = true := by simpa using hpl
                      obtain ⟨x1, x2, e1, e2, rfl⟩ := cEs_plain hp1.1 hcs
                      obtain ⟨x3, x4, e3, e4, rfl⟩ := cEs_plain hp1.2 e2
                      cases e4
                      exact de_lstR2 g.calm hgl hm hgR mR (ihE _ _ e1) (ihE _ _ e3) hp1.1 hp1.2
                    | [], hlen, _, _ => simp at hlen
                    | _ :: _ :: _ :: _, hlen, _, _ => simp at hlen
                  · cases h
              · rename_i hrn
                clear hrn
                split at h
                · rename_i t a0 hia
                  obtain ⟨x1, hx1, rfl⟩ := Option.map_eq_some_iff.mp h
                  unfold isA at hia
                  split at hia
                  · rename_i a1 tn pt
                    split at hia
                    · rename_i hc
                      obtain ⟨rfl, hc⟩ := hc
                      obtain ⟨ty, hty, e1⟩ := Option.map_eq_some_iff.mp hia
                      cases e1
                      have ht := tyOf_ok hty
                      subst ht
                      have hb2 : isGl c (tyN t) = true := by
                        unfold isBuiltin at hc
                        rw [Bool.and_eq_true] at hc
                        exact hc.1
                      have hp1 : isPlain a0 = true := by simp at hk3; exact hk3.1
                      exact de_isI hgl (g.blt _ (by simp)) (gl_ok g hb2) (g.blt _ (by cases t <;> simp [tyN])) (ihE _ _ hx1) hp1
                    · cases hia
                  · cases hia
                · rename_i hni
                  clear hni
                  split at h
                  · rename_i a0 es0 b hb
                    obtain ⟨cs, hcs, rfl⟩ := Option.map_eq_some_iff.mp h
                    have hx := biOf_ok hb
                    subst hx
                    have hm : X.mg (biN b) = none := g.blt _ (by cases b <;> simp [biN])
                    obtain ⟨r, h1, h2⟩ := bi_ok (X := X) g.sm g.calm g.grd (by omega) b
                    exact de_bi h1 h2 hgl hm (cEs_ok ihE _ _ hcs) hk3
                  · cases h
          · cases h
        | Attribute o m apos =>
          simp only [cE] at h
          split at h
          · rename_i hk
            obtain ⟨hk1, hk2, hk3, hk4⟩ := hk
            split at h
            · rename_i me x xs hme hx hxs
              cases h
              have hm := meOf_ok hme
              subst hm
              obtain ⟨r, h1, h2⟩ := me_ok (X := X) (by omega) me
              cases args with
              | nil => cases hxs; exact de_meth0 h1 h2 (ihE _ _ hx) (notCall0_ok hk1 _ _) hk2
              | cons a es => exact de_meth h1 h2 (ihE _ _ hx) (cEs_ok ihE _ _ hxs) (notCall0_ok hk1 _ _) hk2 hk3 (by rw [List.length_cons] at hk4; simp; omega)
            · cases h
          · cases h
        | _ => simp [cE] at h
    | ListComp elt gens scope p =>
      refine dt_of rfl ?_
      unfold cE at h
      split at h <;> first | (rename_i hh; cases hh; done) | skip
      all_goals rename_i hh
      all_goals first | (cases hh; done) | skip
      · cases hh
        rename_i tg iter ifs
        split at h
        · cases h
        · rename_i own hown
          split at h
          · rename_i hk
            simp only at h
            split at h
            · rename_i it t cc ce' hit ht hcc hce
              split at h
              · rename_i hw
                cases h
                have hi := cI_ok g ihE hit
                have ok : BlkOk X.N X.env.scope scope own := by
                  rw [g.N, g.sc]
                  exact blkOk_by hk.1
                have gb := fun s H C cl fp => g.blk s H scope C cl fp
                have hw' : ∀ i ∈ tgS t, i ∈ own.map (·.2) := fun i hi => by
                  have := List.all_eq_true.mp hw i hi
                  simpa using this
                have hg := fun s H C cl fp => cT_ok (gb s H C cl fp) ht
                have he := fun s H C cl fp => (cE_ok n _ _ _ hce _ (gb s H C cl fp)).1
                have hpt : ∀ s H C cl fp, PTs (X.blk s H scope (compEnvC scope cl C X.env) fp) ifs (tT X.K (ev F fu cc)) := fun s H C cl fp => by
                  exact cF_ok (fun e c2 he => (cE_ok n _ _ _ he _ (gb s H C cl fp)).2) hcc
                exact weakE (pe_lc g.calm g.nd hi ok hg hpt he (notSet_fold hk.2 _)) (de_comp g.calm g.nd hi ok hg hpt he (notSet_fold hk.2 _) hw')
              · cases h
            · cases h
          · cases h
      · cases hh
        rename_i tg iter tg1 iter1
        split at h
        · cases h
        · rename_i own hown
          split at h
          · rename_i hk
            simp only at h
            split at h
            · rename_i it t it1 t1 ce hit ht hit1 ht1 hce
              split at h
              · rename_i hw
                cases h
                rw [Bool.and_eq_true] at hw
                have hi := cI_ok g ihE hit
                have ok : BlkOk X.N X.env.scope scope own := by
                  rw [g.N, g.sc]
                  exact blkOk_by hk.1
                have gb := fun s H C cl fp => g.blk s H scope C cl fp
                have hw' : ∀ i ∈ tgS t, i ∈ own.map (·.2) := fun i hi => by
                  have := List.all_eq_true.mp hw.1 i hi
                  simpa using this
                have hw1 : ∀ i ∈ tgS t1, i ∈ own.map (·.2) := fun i hi => by
                  have := List.all_eq_true.mp hw.2 i hi
                  simpa using this
                have hg := fun s H C cl fp => cT_ok (gb s H C cl fp) ht
                have hg1 := fun s H C cl fp => cT_ok (gb s H C cl fp) ht1
                have he := fun s H C cl fp => (cE_ok n _ _ _ hce _ (gb s H C cl fp)).1
                have hi1 := fun s H C cl fp => cI_ok (gb s H C cl fp) (fun e ce h => (cE_ok n _ e ce h _ (gb s H C cl fp)).1) hit1
                exact weakE (pe_lc2 g.calm g.nd hi ok hw1 hg (fun _ _ _ _ _ => pts_nil) hi1 hg1 (fun _ _ _ _ _ => pts_nil) he (notSet_fold hk.2.1 _) (fun env => notSet_fold hk.2.2 env)) (de_comp2 g.calm g.nd ok hw' (fun i hi => hi))
              · cases h
            · cases h
          · cases h
      all_goals cases h
    | DictComp kx vx gens scope p =>
      refine dt_of rfl ?_
      unfold cE at h
      split at h <;> first | (rename_i hh; cases hh; done) | skip
      all_goals rename_i hh
      all_goals first | (cases hh; done) | skip
      · cases hh
        rename_i tg iter ifs
        split at h
        · cases h
        · rename_i own hown
          split at h
          · rename_i hk
            simp only at h
            split at h
            · rename_i it t cc ck cv hit ht hcc hck hcv
              split at h
              · rename_i hw
                cases h
                have hi := cI_ok g ihE hit
                have ok : BlkOk X.N X.env.scope scope own := by
                  rw [g.N, g.sc]
                  exact blkOk_by hk.1
                have gb := fun s H C cl fp => g.blk s H scope C cl fp
                have hw' : ∀ i ∈ tgS t, i ∈ own.map (·.2) := fun i hi => by
                  have := List.all_eq_true.mp hw i hi
                  simpa using this
                have hg := fun s H C cl fp => cT_ok (gb s H C cl fp) ht
                have hk' := fun s H C cl fp => (cE_ok n _ _ _ hck _ (gb s H C cl fp)).1
                have he := fun s H C cl fp => (cE_ok n _ _ _ hcv _ (gb s H C cl fp)).1
                have hpt : ∀ s H C cl fp, PTs (X.blk s H scope (compEnvC scope cl C X.env) fp) ifs (tT X.K (ev F fu cc)) := fun s H C cl fp => by
                  exact cF_ok (fun e c2 he => (cE_ok n _ _ _ he _ (gb s H C cl fp)).2) hcc
                exact weakE (pe_dc g.calm g.nd hi ok hg hpt hk' he (notSet_fold hk.2 _)) (de_dcomp g.calm g.nd hi ok hg hw')
              · cases h
            · cases h
          · cases h
      all_goals cases h
    | _ => simp [cE] at h
end
end EV

set_option Elab.async false
set_option linter.all false
set_option maxRecDepth 100000
set_option maxHeartbeats 4000000
/-! EVZ8: name = {.. for ..} on one line, the name a local. -/
namespace EV
open PySem PySem.Spec PyProof.Rows L2
section
variable {X : Cx}
theorem ps_setDc {i : Nat} {y : Str} {py : Pos} {kx vx tg iter : Expr} {ifs : List Expr} {scope : Scope} {own : List (Str × Nat)} {pos spos : Pos} {wi : TI} {g : TG} {tt : TT} {tk tv : TE} (hc : X.calm = true) (hN : X.N.Nodup) (hy : X.N[i]? = some y) (hyl : X.env.scope.names.lookup y = some .local)
    (hsw : swapsWith (.DictComp kx vx [⟨tg, iter, ifs, 0⟩] scope pos) (some (.Name y py)) spos.line X.env = pure true) (hi : PI X tg iter wi) (ok : BlkOk X.N X.env.scope scope own)
    (hg : ∀ (s : Shared) (H : Hp) (C : Addr) (cl : List (Str × Addr)) (fp : List Addr), PG (X.blk s H scope (compEnvC scope cl C X.env) fp) tg g) (ht : ∀ (s : Shared) (H : Hp) (C : Addr) (cl : List (Str × Addr)) (fp : List Addr), PTs (X.blk s H scope (compEnvC scope cl C X.env) fp) ifs tt)
    (hk : ∀ (s : Shared) (H : Hp) (C : Addr) (cl : List (Str × Addr)) (fp : List Addr), PE (X.blk s H scope (compEnvC scope cl C X.env) fp) kx tk)
    (he : ∀ (s : Shared) (H : Hp) (C : Addr) (cl : List (Str × Addr)) (fp : List Addr), PE (X.blk s H scope (compEnvC scope cl C X.env) fp) vx tv) (hs : ∀ x, foldedSetIterable iter X.env x = pure x := by intro _; rfl) :
    PS X (.Assign [.Name y py] (.DictComp kx vx [⟨tg, iter, ifs, 0⟩] scope pos) spos) (tAsg (tDc wi g tt tk tv (own.map (·.2))) (gName i)) := by
  refine ⟨fun pins s σ H D I h => ?_⟩
  rw [exec_Assign_Name_used _ _ _ _ hsw]
  refine wpAny_bind (wpAny_standAt (wpAny_bind ?_))
  show wpAny _ X.A (do let _ ← comprehension (.DictComp kx vx [⟨tg, iter, ifs, 0⟩] scope pos) scope X.env (firstIterPos [⟨tg, iter, ifs, 0⟩] pos) newDict false (eval iter X.env) (some (assign (.Name y py) X.env))) _ _ s
  have h : tDc wi g tt tk tv (own.map (·.2)) σ H (fun x H1 => gName i x σ H1 D.nx) := h
  refine wpAny_bind (thn (dc_core (Qf := fun _ s' => SP X pins D .next s') hc hN I hi ok hg ht hk he hs h fun L C s' m H' I' q hn f => ?_) fun _ s' hq => wpAny_pure (wpAny_pure hq))
  show wpAny _ _ (assign (.Name y py) X.env (.ref L)) _ _ _
  refine wpAny_assign_Name (store_ok2 (v := V.ref L) I' hN hy (.inl hyl) rfl (fun s2 I2 ⟨a, sb, ha⟩ => ?_) (.inr hyl))
  obtain ⟨f0, f1, f2, f3, f4, f5⟩ := f
  have haC : C ≠ a := by
    rcases ha with z | z
    · rw [z]; exact f1
    · exact fun e => f4 y a z e.symm
  refine ⟨m, hn.sameBut sb haC, fun h3 sb3 => ?_⟩
  exact ⟨_, H', I2.turned (t' := s2.toks) (fun b o hb e => (sb3.2 b hb).trans e) f0 f1 f3 f4 f5, q⟩
end
end EV

set_option Elab.async false
set_option linter.all false
set_option maxRecDepth 100000
set_option maxHeartbeats 8000000
/-! EV14: the code that is made of statements is a reading of them. -/
namespace EV
open PySem PySem.Spec L2

def eFuel : Nat := 40
/-- whether a comprehension's list and the name swap -/
def swB (sc : Scope) (x : Str) (l l2 : Nat) (scope : Scope) : Bool :=
  kindIs (sc.names.lookup x) .local && l == l2 && !(scope.names.any fun (n, k) => n == x && (k == .local || k == .cell))
def isFn (sc : Scope) : Bool := match sc.kind with
  | .function => true
  | _ => false
/-- a statement of which no code can be made is told as stuck -/
def cSs (f : Stmt → Option CS) : List Stmt → Option CSs
  | [] => some .nil
  | s :: r => match f s, cSs f r with
    | some a, some b => some (.cons a b)
    | none, some b => some (.cons .stk b)
    | _, none => none
def cA (c : Cc) (tg e : Expr) : Option CS :=
  match tg with
  | .Name x px => match e with
    | .ListComp elt gens scope p => if isFn c.sc = true then (if swB c.sc x px.line p.line scope = true then (match slotOf c.N x, cE eFuel c (.ListComp elt gens scope p) with
          | some i, some a => some (.asg (.nm i) a)
          | _, _ => none)
        else (if stoB c x = true ∧ kindIs (c.sc.names.lookup x) .cell = true then (match slotOf c.N x, cE eFuel c (.ListComp elt gens scope p) with
          | some i, some a => some (.asg (.nm i) a)
          | _, _ => none) else none)) else none
    | .DictComp kx vx gens scope p => if isFn c.sc = true then (if swB c.sc x px.line p.line scope = true then (match slotOf c.N x, cE eFuel c (.DictComp kx vx gens scope p) with
          | some i, some a => some (.asg (.nm i) a)
          | _, _ => none)
        else (if stoB c x = true ∧ kindIs (c.sc.names.lookup x) .cell = true then (match slotOf c.N x, cE eFuel c (.DictComp kx vx gens scope p) with
          | some i, some a => some (.asg (.nm i) a)
          | _, _ => none) else none)) else none
    | e => if notComp e = true ∧ stoB c x = true then (match slotOf c.N x, cE eFuel c e with
      | some i, some a => some (.asg (.nm i) a)
      | _, _ => none) else none
  | .Tuple ts kt pt => match e with
    | .Tuple vs k2 pt2 => match swp ts vs c.sc with
      | some none => (match mapO (cNm c) ts, cE eFuel c (.Tuple vs k2 pt2) with
        | some is, some a => some (.asg (.tp is) a)
        | _, _ => none)
      | some (some names) => (match mapO (cNm c) ts, cEs (cE eFuel c) vs with
        | some is, some (.cons a (.cons b .nil)) => (match is, ts, names, vs with
          | [i, j], [.Name x _, .Name y _], [x', y'], [_, _] => if (x = x' ∧ y = y' ∧ i ≠ j) ∧ kindIs (c.sc.names.lookup x) .local = true ∧ kindIs (c.sc.names.lookup y) .local = true then some (.par [i, j] (.cons a (.cons b .nil))) else none
          | _, _, _, _ => none)
        | some is, some (.cons a (.cons b (.cons d .nil))) => (match is, ts, names, vs with
          | [i, j, l], [.Name x _, .Name y _, .Name z _], [x', y', z'], [_, _, _] => if (x = x' ∧ y = y' ∧ z = z' ∧ i ≠ j ∧ i ≠ l ∧ j ≠ l) ∧ kindIs (c.sc.names.lookup x) .local = true ∧ kindIs (c.sc.names.lookup y) .local = true ∧ kindIs (c.sc.names.lookup z) .local = true then some (.par [i, j, l] (.cons a (.cons b (.cons d .nil)))) else none
          | _, _, _, _ => none)
        | _, _ => none)
      | none => none
    | e => (match mapO (cNm c) ts, cE eFuel c e with
      | some is, some a => some (.asg (.tp is) a)
      | _, _ => none)
  | .Subscript o i _ => if notComp e = true ∧ notSl i = true then (match cE eFuel c o, cE eFuel c i, cE eFuel c e with
    | some o, some i, some a => some (.asg (.sub o i) a)
    | _, _, _ => none) else none
  | _ => none
def isAS : BOp → Bool
  | .add => true
  | .sub => true
  | _ => false
theorem isAS_ok {o : BOp} (h : isAS o = true) : o = .add ∨ o = .sub := by
  cases o <;> first | exact .inl rfl | exact .inr rfl | cases h
def cS : Nat → Cc → Stmt → Option CS
  | 0, _, _ => none
  | n + 1, c, s => match s with
    | .Pass _ => some .pss
    | .Break _ => some .brk
    | .Continue _ => some .cnt
    | .Return none _ => some (.ret (.lit .non))
    | .Return (some e) _ => (cE eFuel c e).map .ret
    | .Expr e _ => if notComp e = true then (cE eFuel c e).map .expr else none
    | .If t a b _ => match cE eFuel c t, cSs (cS n c) a, cSs (cS n c) b with
      | some t, some a, some b => some (.ifs t a b)
      | _, _, _ => none
    | .While t b [] _ => match cE eFuel c t, cSs (cS n c) b with
      | some t, some b => some (.whl t b)
      | _, _ => none
    | .For tg it b [] _ => if notSet it = true then (match cI (cE eFuel c) c tg it, cT c tg, cSs (cS n c) b with
      | some i, some t, some b => some (.frr t i b)
      | _, _, _ => none) else none
    | .Assign [tg] e _ => cA c tg e
    | .AugAssign (.Name x _) op e _ => if stoB c x = true then (match slotOf c.N x, opOf op, cE eFuel c e with
      | some i, some o, some a => if isAS o = true then some (.aug i o a) else none
      | _, _, _ => none) else none
    | .AugAssign (.Subscript o i _) op e _ => if notSl i = true then (match cE eFuel c o, cE eFuel c i, opOf op, cE eFuel c e with
      | some o, some i, some b, some a => if isAS b = true then some (.augx o i b a) else none
      | _, _, _, _ => none) else none
    | _ => none

section
variable {X : Cx} {F : Ca} {fu : Nat} {c : Cc}
theorem cSs_ok {f : Stmt → Option CS} (hf : ∀ s cs, f s = some cs → DS X F fu s cs) : ∀ (ss : List Stmt) (cs : CSs), cSs f ss = some cs → DSs X F fu ss cs
  | [], cs, h => by cases h; exact dss_nil
  | s :: r, cs, h => by
    simp only [cSs] at h
    split at h
    · rename_i a b ha hb
      cases h
      exact dss_cons (hf _ _ ha) (cSs_ok hf _ _ hb)
    · rename_i b ha hb
      cases h
      exact dss_cons ds_stk (cSs_ok hf _ _ hb)
    · cases h
theorem sw_fn {x : Str} {px p : Pos} {l : Nat} {elt : Expr} {gens : List Comprehension} {scope : Scope} {env : Env} (hf : isFn env.scope = true) :
    swapsWith (.ListComp elt gens scope p) (some (.Name x px)) l env = pure (env.scope.names.lookup x == some .local && px.line == p.line && !(scope.names.any fun (n, k) => n == x && (k == .local || k == .cell))) := by
  have hk : env.scope.kind = .function := by
    unfold isFn at hf
    split at hf
    · assumption
    · cases hf
  have hb : env.blockKind = .function := by unfold Env.blockKind; rw [hk]; rfl
  unfold swapsWith
  simp only [hb]
  rfl
theorem sw_fnD {x : Str} {px p : Pos} {l : Nat} {kx vx : Expr} {gens : List Comprehension} {scope : Scope} {env : Env} (hf : isFn env.scope = true) :
    swapsWith (.DictComp kx vx gens scope p) (some (.Name x px)) l env = pure (env.scope.names.lookup x == some .local && px.line == p.line && !(scope.names.any fun (n, k) => n == x && (k == .local || k == .cell))) := by
  have hk : env.scope.kind = .function := by
    unfold isFn at hf
    split at hf
    · assumption
    · cases hf
  have hb : env.blockKind = .function := by unfold Env.blockKind; rw [hk]; rfl
  unfold swapsWith
  simp only [hb]
  rfl
/-- what the making of a comprehension's code tells -/
theorem cLc_ok {n : Nat} {elt : Expr} {gens : List Comprehension} {scope : Scope} {p : Pos} {ce : CE} (g : GOk F c X) (h : cE n c (.ListComp elt gens scope p) = some ce)
    {i : Nat} {x : Str} {px pos : Pos} (hi : X.N[i]? = some x) (hx : X.env.scope.names.lookup x = some .local) (hsw : swapsWith (.ListComp elt gens scope p) (some (.Name x px)) pos.line X.env = pure true) :
    DS X F fu (.Assign [.Name x px] (.ListComp elt gens scope p) pos) (.asg (.nm i) ce) := by
  cases n with
  | zero => cases h
  | succ n =>
    have ihE : ∀ e ce, cE n c e = some ce → DE X F fu e ce := fun e ce h => (cE_ok n c e ce h X g).1
    unfold cE at h
    split at h <;> first | (rename_i hh; cases hh; done) | skip
    all_goals rename_i hh
    all_goals first | (cases hh; done) | skip
    · cases hh
      rename_i tg iter ifs
      split at h
      · cases h
      · rename_i own hown
        split at h
        · rename_i hk
          simp only at h
          split at h
          · rename_i it t cc ce' hit ht hcc hce
            split at h
            · rename_i hw
              cases h
              have hi' := cI_ok g ihE hit
              have ok : BlkOk X.N X.env.scope scope own := by
                rw [g.N, g.sc]
                exact blkOk_by hk.1
              have gb := fun s H C cl fp => g.blk s H scope C cl fp
              have hw' : ∀ i ∈ tgS t, i ∈ own.map (·.2) := fun i hi => by
                have := List.all_eq_true.mp hw i hi
                simpa using this
              have hg := fun s H C cl fp => cT_ok (gb s H C cl fp) ht
              have he := fun s H C cl fp => (cE_ok (fu := fu) n _ _ _ hce _ (gb s H C cl fp)).1
              have hpt : ∀ s H C cl fp, PTs (X.blk s H scope (compEnvC scope cl C X.env) fp) ifs (tT X.K (ev F fu cc)) := fun s H C cl fp => by
                exact cF_ok (fun e c2 he => (cE_ok n _ _ _ he _ (gb s H C cl fp)).2) hcc
              exact ds_setLc (ps_setLc g.calm g.nd hi hx hsw hi' ok hg hpt he (notSet_fold hk.2 _)) (de_comp g.calm g.nd hi' ok hg hpt he (notSet_fold hk.2 _) hw')
            · cases h
          · cases h
        · cases h
    · cases hh
      rename_i tg iter tg1 iter1
      split at h
      · cases h
      · rename_i own hown
        split at h
        · rename_i hk
          simp only at h
          split at h
          · rename_i it t it1 t1 ce' hit ht hit1 ht1 hce
            split at h
            · rename_i hw
              cases h
              rw [Bool.and_eq_true] at hw
              have hi' := cI_ok g ihE hit
              have ok : BlkOk X.N X.env.scope scope own := by
                rw [g.N, g.sc]
                exact blkOk_by hk.1
              have gb := fun s H C cl fp => g.blk s H scope C cl fp
              have hw' : ∀ i ∈ tgS t, i ∈ own.map (·.2) := fun i hi => by
                have := List.all_eq_true.mp hw.1 i hi
                simpa using this
              have hw1 : ∀ i ∈ tgS t1, i ∈ own.map (·.2) := fun i hi => by
                have := List.all_eq_true.mp hw.2 i hi
                simpa using this
              have hg := fun s H C cl fp => cT_ok (gb s H C cl fp) ht
              have hg1 := fun s H C cl fp => cT_ok (gb s H C cl fp) ht1
              have he := fun s H C cl fp => (cE_ok (fu := fu) n _ _ _ hce _ (gb s H C cl fp)).1
              have hi1 := fun s H C cl fp => cI_ok (gb s H C cl fp) (fun e ce h => (cE_ok (fu := fu) n _ e ce h _ (gb s H C cl fp)).1) hit1
              exact ds_setLc (ps_setLc2 g.calm g.nd hi hx hsw hi' ok hw1 hg (fun _ _ _ _ _ => pts_nil) hi1 hg1 (fun _ _ _ _ _ => pts_nil) he (notSet_fold hk.2.1 _) (fun env => notSet_fold hk.2.2 env)) (de_comp2 g.calm g.nd ok hw' (fun i hi => hi))
            · cases h
          · cases h
        · cases h
    all_goals cases h
theorem cDc_ok {n : Nat} {kx vx : Expr} {gens : List Comprehension} {scope : Scope} {p : Pos} {ce : CE} (g : GOk F c X) (h : cE n c (.DictComp kx vx gens scope p) = some ce)
    {i : Nat} {x : Str} {px pos : Pos} (hi : X.N[i]? = some x) (hx : X.env.scope.names.lookup x = some .local) (hsw : swapsWith (.DictComp kx vx gens scope p) (some (.Name x px)) pos.line X.env = pure true) :
    DS X F fu (.Assign [.Name x px] (.DictComp kx vx gens scope p) pos) (.asg (.nm i) ce) := by
  cases n with
  | zero => cases h
  | succ n =>
    have ihE : ∀ e ce, cE n c e = some ce → DE X F fu e ce := fun e ce h => (cE_ok n c e ce h X g).1
    unfold cE at h
    split at h <;> first | (rename_i hh; cases hh; done) | skip
    all_goals rename_i hh
    all_goals first | (cases hh; done) | skip
    · cases hh
      rename_i tg iter ifs
      split at h
      · cases h
      · rename_i own hown
        split at h
        · rename_i hk
          simp only at h
          split at h
          · rename_i it t cc ck cv hit ht hcc hck hcv
            split at h
            · rename_i hw
              cases h
              have hi' := cI_ok g ihE hit
              have ok : BlkOk X.N X.env.scope scope own := by
                rw [g.N, g.sc]
                exact blkOk_by hk.1
              have gb := fun s H C cl fp => g.blk s H scope C cl fp
              have hw' : ∀ i ∈ tgS t, i ∈ own.map (·.2) := fun i hi => by
                have := List.all_eq_true.mp hw i hi
                simpa using this
              have hg := fun s H C cl fp => cT_ok (gb s H C cl fp) ht
              have hk' := fun s H C cl fp => (cE_ok (fu := fu) n _ _ _ hck _ (gb s H C cl fp)).1
              have he := fun s H C cl fp => (cE_ok (fu := fu) n _ _ _ hcv _ (gb s H C cl fp)).1
              have hpt : ∀ s H C cl fp, PTs (X.blk s H scope (compEnvC scope cl C X.env) fp) ifs (tT X.K (ev F fu cc)) := fun s H C cl fp => by
                exact cF_ok (fun e c2 he => (cE_ok n _ _ _ he _ (gb s H C cl fp)).2) hcc
              exact ds_setLc (ps_setDc g.calm g.nd hi hx hsw hi' ok hg hpt hk' he (notSet_fold hk.2 _)) (de_dcomp g.calm g.nd hi' ok hg hw')
            · cases h
          · cases h
        · cases h
    all_goals cases h
theorem slot_N (g : GOk F c X) {x : Str} {i : Nat} (h : slotOf c.N x = some i) : X.N[i]? = some x := by
  rw [g.N]; exact slotOf_ok h
theorem cNm_inv (g : GOk F c X) {x : Str} {p : Pos} {i : Nat} (h : cNm c (.Name x p) = some i) : X.N[i]? = some x := by
  simp only [cNm] at h
  split at h
  · exact slot_N g h
  · cases h
theorem notSl_asg {i : Expr} (h : notSl i = true) (env : Env) (o : Expr) (p : Pos) : AsgIx env o i p := by
  intro v
  cases i <;> first | rfl | cases h
theorem mapO_cons {α β : Type} {f : α → Option β} {x : α} {xs : List α} {ys : List β} (h : mapO f (x :: xs) = some ys) : ∃ y zs, f x = some y ∧ mapO f xs = some zs ∧ ys = y :: zs := by
  unfold mapO at h
  split at h
  · cases h
  · rename_i y hy
    split at h
    · cases h
    · rename_i zs hz
      cases h
      exact ⟨y, zs, hy, hz, rfl⟩
theorem tup_asg {ts : List Expr} {kt : Nat} {pt pos : Pos} {e : Expr} {is : List Nat} {a : CE} (g : GOk F c X) (ht : mapO (cNm c) ts = some is) (ha : DE X F fu e a) (hw : swappedStores [.Tuple ts kt pt] e X.env = pure none) (hs : swapsWithSole [.Tuple ts kt pt] e pos.line X.env = pure false) :
    DS X F fu (.Assign [.Tuple ts kt pt] e pos) (.asg (.tp is) a) := by
  exact ds_unp ha (cTA_ok g ht) hs hw rfl
theorem sw_tup (e : Expr) (l : Nat) (env : Env) {ts : List Expr} {kt : Nat} {pt : Pos} : swapsWithSole [.Tuple ts kt pt] e l env = pure false := by
  show swapsWith e (some (.Tuple ts kt pt)) l env = pure false
  unfold swapsWith
  cases e <;> rfl
theorem cA_ok (g : GOk F c X) {tg e : Expr} {pos : Pos} {cs : CS} (h : cA c tg e = some cs) : DS X F fu (.Assign [tg] e pos) cs := by
  have ihE : ∀ e ce, cE eFuel c e = some ce → DE X F fu e ce := fun e ce h => (cE_ok eFuel c e ce h X g).1
  have un := g.un
  cases tg with
  | Name x px =>
    have gen : notComp e = true → (if notComp e = true ∧ stoB c x = true then (match slotOf c.N x, cE eFuel c e with
      | some i, some a => some (CS.asg (.nm i) a)
      | _, _ => none) else none) = some cs → DS X F fu (.Assign [.Name x px] e pos) cs := fun hc h => by
      split at h
      · rename_i hk
        split at h
        · rename_i i a hi ha
          cases h
          obtain ⟨h1, h2⟩ := sto_ok g hk.2
          exact ds_set g.nd (slot_N g hi) h1 (ihE _ _ ha) (notComp_sw hk.1 _ _ _) h2
        · cases h
      · cases h
    by_cases hn : notComp e = true
    · refine gen hn ?_
      rw [← h]
      cases e <;> first | rfl | cases hn
    · cases e <;> first | (exact absurd rfl hn) | skip
      · rename_i elt gens scope p
        simp only [cA] at h
        split at h
        · rename_i hfn
          rw [← g.sc] at hfn
          split at h
          · rename_i hsw
            split at h
            · rename_i i a hi ha
              cases h
              unfold swB at hsw
              simp only [Bool.and_eq_true] at hsw
              obtain ⟨⟨h1, h2⟩, h3⟩ := hsw
              have hl := kindIs_ok h1
              rw [← g.sc] at hl
              refine cLc_ok g ha (slot_N g hi) hl ?_
              rw [sw_fn hfn, hl, h2, h3]
              rfl
            · cases h
          · split at h
            · rename_i hk
              split at h
              · rename_i i a hi ha
                cases h
                obtain ⟨h1, h2⟩ := sto_ok g hk.1
                refine ds_set g.nd (slot_N g hi) h1 (ihE _ _ ha) ?_ h2
                have hl := kindIs_ok hk.2
                rw [← g.sc] at hl
                rw [sw_fn hfn, hl]
                rfl
              · cases h
            · cases h
        · cases h
      · simp [cA, notComp] at h
      · rename_i kx vx gens scope p
        simp only [cA] at h
        split at h
        · rename_i hfn
          rw [← g.sc] at hfn
          split at h
          · rename_i hsw
            split at h
            · rename_i i a hi ha
              cases h
              unfold swB at hsw
              simp only [Bool.and_eq_true] at hsw
              obtain ⟨⟨h1, h2⟩, h3⟩ := hsw
              have hl := kindIs_ok h1
              rw [← g.sc] at hl
              refine cDc_ok g ha (slot_N g hi) hl ?_
              rw [sw_fnD hfn, hl, h2, h3]
              rfl
            · cases h
          · split at h
            · rename_i hk
              split at h
              · rename_i i a hi ha
                cases h
                obtain ⟨h1, h2⟩ := sto_ok g hk.1
                refine ds_set g.nd (slot_N g hi) h1 (ihE _ _ ha) ?_ h2
                have hl := kindIs_ok hk.2
                rw [← g.sc] at hl
                rw [sw_fnD hfn, hl]
                rfl
              · cases h
            · cases h
        · cases h
  | Tuple ts kt pt =>
    by_cases ht : isTup e = true
    · cases e <;> first | (cases ht; done) | skip
      rename_i vs k2 pt2
      simp only [cA] at h
      split at h
      · rename_i hsw
        rw [← g.sc] at hsw
        split at h
        · rename_i is a his ha
          cases h
          exact tup_asg g his (ihE _ _ ha) (swp_ok hsw) rfl
        · cases h
      · rename_i names hsw
        rw [← g.sc] at hsw
        split at h
        · rename_i is a b his ha
          split at h
          · rename_i i j x px y py x' y' v1 v2
            split at h
            · rename_i hk
              obtain ⟨⟨rfl, rfl, hij⟩, hx, hy⟩ := hk
              cases h
              obtain ⟨_, _, e1, e2, e3⟩ := mapO_cons his
              obtain ⟨_, _, e4, e5, e6⟩ := mapO_cons e2
              cases e6; cases e3
              have hx := kindIs_ok hx
              have hy := kindIs_ok hy
              rw [← g.sc] at hx hy
              exact ds_par2 g.calm g.nd (cNm_inv g e1) (cNm_inv g e4) hij hx hy (cEs_ok ihE _ _ ha) (swp_ok hsw)
            · cases h
          · cases h
        · rename_i is a b d his ha
          split at h
          · rename_i i j l x px y py z pz x' y' z' v1 v2 v3
            split at h
            · rename_i hk
              obtain ⟨⟨rfl, rfl, rfl, hij, hil, hjl⟩, hx, hy, hz⟩ := hk
              cases h
              obtain ⟨_, _, e1, e2, e3⟩ := mapO_cons his
              obtain ⟨_, _, e4, e5, e6⟩ := mapO_cons e2
              obtain ⟨_, _, e7, e8, e9⟩ := mapO_cons e5
              cases e9; cases e6; cases e3
              have hx := kindIs_ok hx
              have hy := kindIs_ok hy
              have hz := kindIs_ok hz
              rw [← g.sc] at hx hy hz
              exact ds_par3 g.calm g.nd (cNm_inv g e1) (cNm_inv g e4) (cNm_inv g e7) hij hil hjl hx hy hz (cEs_ok ihE _ _ ha) (swp_ok hsw)
            · cases h
          · cases h
        · cases h
      · cases h
    · have z : cA c (.Tuple ts kt pt) e = (match mapO (cNm c) ts, cE eFuel c e with
          | some is, some a => some (.asg (.tp is) a)
          | _, _ => none) := by cases e <;> first | rfl | exact absurd rfl ht
      rw [z] at h
      split at h
      · rename_i is a his ha
        cases h
        exact tup_asg g his (ihE _ _ ha) (by cases e <;> first | rfl | exact absurd rfl ht) (sw_tup e pos.line X.env)
      · cases h
  | Subscript o i p2 =>
    simp only [cA] at h
    split at h
    · rename_i hk
      split at h
      · rename_i co ci ca ho hi ha
        cases h
        obtain ⟨t, h1, h2⟩ := set_ok (X := X) (by omega)
        exact ds_sub h1 h2 (ihE _ _ ha) (ihE _ _ ho) (ihE _ _ hi) (notComp_sw hk.1 (some (.Subscript o i p2)) pos.line X.env) (notSl_asg hk.2 _ _ _)
      · cases h
    · cases h
  | _ => simp [cA] at h
theorem cS_ok : ∀ (n : Nat) (s : Stmt) (cs : CS), cS n c s = some cs → GOk F c X → PassesOwn (model X.prog X.w) X.A X.env X.xe → DS X F fu s cs
  | 0, _, _, h, _, _ => by cases h
  | n + 1, s, cs, h, g, hp => by
    have ih : ∀ s cs, cS n c s = some cs → DS X F fu s cs := fun s cs h => cS_ok n s cs h g hp
    have ihE : ∀ e ce, cE eFuel c e = some ce → DE X F fu e ce := fun e ce h => (cE_ok eFuel c e ce h X g).1
    have ihT : ∀ e ce, cE eFuel c e = some ce → DT X F fu e ce := fun e ce h => (cE_ok eFuel c e ce h X g).2
    cases s with
    | Pass p => simp only [cS] at h; cases h; exact ds_pass
    | Break p => simp only [cS] at h; cases h; exact ds_brk
    | Continue p => simp only [cS] at h; cases h; exact ds_cnt
    | Return e p =>
      cases e with
      | none => simp only [cS] at h; cases h; exact ds_retN
      | some e =>
        simp only [cS] at h
        obtain ⟨a, ha, rfl⟩ := Option.map_eq_some_iff.mp h
        exact ds_ret (ihE _ _ ha)
    | Expr e p =>
      simp only [cS] at h
      split at h
      · rename_i hk
        obtain ⟨a, ha, rfl⟩ := Option.map_eq_some_iff.mp h
        exact ds_expr (ihE _ _ ha) (notComp_sw hk _ _ _)
      · cases h
    | If t a b p =>
      simp only [cS] at h
      split at h
      · rename_i ct as' bs ht ha hb
        cases h
        exact ds_if (ihT _ _ ht) (cSs_ok ih _ _ ha) (cSs_ok ih _ _ hb)
      · cases h
    | While t b o p =>
      cases o with
      | cons o os => simp [cS] at h
      | nil =>
        simp only [cS] at h
        split at h
        · rename_i ct bs ht hb
          cases h
          exact ds_while hp (ihT _ _ ht) (cSs_ok ih _ _ hb)
        · cases h
    | For tg it b o p =>
      cases o with
      | cons o os => simp [cS] at h
      | nil =>
        simp only [cS] at h
        split at h
        · rename_i hk
          split at h
          · rename_i ci ct bs hi ht hb
            cases h
            exact ds_for hp g.calm (cI_ok g ihE hi) (cT_ok g ht) (cSs_ok ih _ _ hb) (notSet_fold hk _)
          · cases h
        · cases h
    | Assign ts e p =>
      match ts, h with
      | [tg], h => exact cA_ok g (by simpa only [cS] using h)
      | [], h => simp [cS] at h
      | _ :: _ :: _, h => simp [cS] at h
    | AugAssign tg op e p =>
      cases tg <;> first | (simp [cS] at h; done) | skip
      · rename_i ox ix px
        simp only [cS] at h
        split at h
        · rename_i hk
          split at h
          · rename_i co ci b ca ho hi hop ha
            split at h
            · rename_i hoo
              cases h
              have := opOf_ok hop
              subst this
              obtain ⟨t, h1, h2⟩ := aug_ok (X := X) b (isAS_ok hoo)
              have un := g.un
              obtain ⟨tg, h3, h4⟩ := get_ok (X := X) (by omega)
              obtain ⟨ts, h5, h6⟩ := set_ok (X := X) (by omega)
              exact ds_augx h1 h2 h3 h4 h5 h6 (ihE _ _ ho) (ihE _ _ hi) (ihE _ _ ha) (by intro ov iv new; cases ix <;> first | rfl | cases hk)
            · cases h
          · cases h
        · cases h
      · rename_i x px
        simp only [cS] at h
        split at h
        · rename_i hk
          split at h
          · rename_i i o a hi ho ha
            split at h
            · rename_i hoo
              cases h
              have := opOf_ok ho
              subst this
              obtain ⟨t, h1, h2⟩ := aug_ok (X := X) o (isAS_ok hoo)
              obtain ⟨h3, h4⟩ := sto_ok g hk
              exact ds_aug h1 h2 g.nd (slot_N g hi) h3 (ihE _ _ ha) h4
            · cases h
          · cases h
        · cases h
    | _ => simp [cS] at h
end
end EV

set_option Elab.async false
set_option linter.all false
set_option maxRecDepth 100000
set_option maxHeartbeats 8000000
/-! EV15: the defs of a text, all at once; the law's end. -/
namespace EV
open PySem PySem.Spec L2 PyProof.Rows

/-- a def of the text as it stands behind the top, with or without defaults -/
structure FunE (K : PySem.W.Frag) (x qual : Str) (st : Stmt) (f : Addr) (fd : FuncData) : Prop where
  ex : ∃ (oc : Value) (od : Option Addr) (dV kV doc pm : Value) (an : Option Addr) (cdv ct : Value) (osl : Array (Option Value)),
    fd = PySem.W.fnOf x qual (defArgs st) (defBody st) (defScope st) dV kV doc pm an cdv ct ∧ K.lookup f = some ⟨oc, od, .func fd, osl⟩ ∧ PySem.W.codeIn K cdv qual = true
  kp : PySem.W.keepIn K (.ref f) = true
theorem FunE.of {K : PySem.W.Frag} {x qual : Str} {st : Stmt} {f : Addr} {fd : FuncData} (F : Fun K x qual st f fd) : FunE K x qual st f fd := by
  obtain ⟨oc, od, kV, doc, pm, an, cd, ct, osl, e, look, code⟩ := F.ex
  exact ⟨⟨oc, od, _, kV, doc, pm, an, cd, ct, osl, e, look, code⟩, F.kp⟩
/-- a def is what its body is, where no guard stands around it -/
theorem fnG_of {P : Program} {w : World} {K : PySem.W.Frag} {mg : Str → Option Value} {base : Heap} {k : Nat} {x q : Str} {st : Stmt} {f : Addr} {fd : FuncData} {N ps : List Str} {sp : Sp} (F : FunE K x q st f fd) (S : FnScope N ps (defScope st))
    (ln : ∀ vs H Q E, sp vs H Q E → vs.length = ps.length)
    (bd : ∀ (cd : Value) (A : Around) (outer : List Env) (s : Shared) (H : Hp) (vs : List V) (Q : VK) (E : XK), Room k (A.deeper (envOfC q (defScope st) s.heap.objs.size f cd)) → A.guards = some [] → sp vs H Q E →
      ∃ t, PSs (cxOf CX0 P w K mg base N q (defScope st) f cd A outer s H E).nox (defBody st) t ∧ t { nx := fun _ H' => Q .non H', rt := Q } (L2.start N vs) H) : FnG P w K mg base (k + 1) f fd ps sp := by
  obtain ⟨oc, od, dV, kV, doc, pm, an, cd, ct, osl, rfl, look, code⟩ := F.ex
  refine ⟨ln, fun A outer s H args us vs Q E room grd env0 bnd rel want => ?_⟩
  have lenV := ln _ _ _ _ want
  have inK : K.In s.heap := env0.mod.kin.keeps fun b o z => (env0.bs b o z).1
  have noLim : s.heap.NoLimit := env0.mod.nolimit.keeps fun b o z => (env0.bs b o z).1
  have kinds : ∀ y ∈ ps.zip us, (defScope st).names.lookup y.1 = some .local ∨ ((defScope st).names.lookup y.1 = some .cell ∧ ((cellsFrom (s.heap.objs.size + 1) (defScope st).names []).lookup y.1).isSome = true) := by
    rintro ⟨n, v⟩ hy
    exact (S.par n (List.of_mem_zip hy).1).imp_right fun z => ⟨z, PySem.W.cellsFrom_some _ _ _ (.inl z)⟩
  refine codeAny_call_function room.depth (inK _ _ look) rfl S.co S.gen rfl (PySem.W.codeRec_of inK code) (bnd _ _ _ _ ?_)
  refine wpAny_newFunctionEnv_cells S.kind kinds fun env isEnv s1 inC => ?_
  subst isEnv
  refine ⟨noLim.keeps inC.toInCall.keep, codeAny_func ?_⟩
  obtain ⟨t, rd, ok⟩ := bd cd A outer s H vs Q E (room.deeper _) grd want
  have I := inv_start (E := E) (CX := CX0) S room.hd env0 lenV rel inC
  refine wpAny_mono (rd.nox.run [] s1 (L2.start N vs) H _ I ok) (fun fl s2 out => ?_) fun e s2 out => out
  cases fl with
  | ret u =>
    obtain ⟨v, σ2, H2, J, rv, hq⟩ := out
    exact ⟨v, H2, J.os, J.bare, J.base, J.hok, rv, hq⟩
  | next =>
    obtain ⟨σ2, H2, J, hq⟩ := out
    exact ⟨V.non, H2, J.os, J.bare, J.base, J.hok, rfl, hq⟩
  | brk =>
    obtain ⟨_, _, _, hq⟩ := out
    exact hq.elim
  | cont =>
    obtain ⟨_, _, _, hq⟩ := out
    exact hq.elim

/-- a def of the text and what is made of it -/
structure Dd where
  x : Str
  st : Stmt
  N : List Str
  ps : List Str
  cs : CSs
  ds : List PV := []
def Dd.fn (d : Dd) : Fn := ⟨d.ps.length, d.N.length, d.cs⟩
def progOf (D : List Dd) : List Fn := D.map Dd.fn

theorem start_RS {K : PySem.W.Frag} {φ : List Addr} {H : Hp} {xs : List PV} {vs : List V} {N : List Str} (r : RVs K φ H xs vs) : RS K φ H (xs.map some ++ List.replicate (N.length - xs.length) none) (L2.start N vs) := by
  have hl := r.length
  unfold L2.start
  refine ⟨by simp [hl], fun i p e => ?_⟩
  by_cases c : i < xs.length
  · rw [List.getElem?_append_left (by simpa using c), List.getElem?_map] at e
    obtain ⟨q, e1, e2⟩ := Option.map_eq_some_iff.mp e
    cases e2
    obtain ⟨v, e3, e4⟩ := r.get e1
    refine ⟨v, ?_, e4⟩
    rw [List.getElem?_append_left (by rw [List.length_map, ← hl]; exact c), List.getElem?_map, e3]
    rfl
  · rw [List.getElem?_append_right (by simpa using c)] at e
    have := List.mem_of_getElem? e
    simp at this

section
variable {P : Program} {w : World} {K : PySem.W.Frag} {mg : Str → Option Value} {base : Heap} {D : List Dd} {gl : List (Str × GI)} {fu : Nat}
def bNames : List Str := ["range", "enumerate", "len", "abs", "int", "max", "min", "tuple", "list", "repr", "sorted", "sum", "any", "all", "isinstance", "bool", "str", "dict", "zip", "set"]
/-- the top: its defs, its constants; no built-in's name is taken -/
structure TopOk (w : World) (K : PySem.W.Frag) (mg : Str → Option Value) (D : List Dd) (gl : List (Str × GI)) : Prop where
  sc : ∀ (i : Nat) (d : Dd), D[i]? = some d → FnScope d.N d.ps (defScope d.st)
  cs : ∀ (i : Nat) (d : Dd), D[i]? = some d → cSs (cS 20 ⟨d.N, gl, defScope d.st, none⟩) (defBody d.st) = some d.cs
  fn : ∀ (i : Nat) (d : Dd), D[i]? = some d → ∃ f fd, FunE K d.x d.x d.st f fd ∧ mg d.x = some (.ref f) ∧ BindE K fd d.ps d.ds
  glF : ∀ (x : Str) (i np : Nat) (ds : List PV), gl.lookup x = some (.fn i np ds) → ∃ d : Dd, D[i]? = some d ∧ d.x = x ∧ d.ps.length = np ∧ d.ds = ds
  glV : ∀ (x : Str) (v : PV), gl.lookup x = some (.val v) → ∃ u w, mg x = some u ∧ RelV w u ∧ ∀ φ H, RV K φ H v w
  blt : ∀ x : Str, x ∈ bNames → mg x = none
  bfn : ∀ (x : Str) (b : Fb), gl.lookup x = some (.bfn b) → mg x = some (.builtin (fbI b))
  kd : ∀ (x : Str) (kvs : List (Str × PV)), gl.lookup x = some (.kd kvs) → ∃ q, mg x = some (.ref q) ∧ ∀ z v, kvs.lookup z = some v → ∃ u, KDct K w q z u ∧ ∀ φ H, RV K φ H v u
theorem runs_ok (hsm : ∃ o, base.get? sysModules = some o) (T : TopOk w K mg D gl) : ∀ (n : Nat) (i : Nat) (d : Dd) (f : Addr) (fd : FuncData), D[i]? = some d → FunE K d.x d.x d.st f fd → FnG P w K mg base n f fd d.ps (spE K (run (progOf D) fu n i))
  | 0, i, d, f, fd, _, _ => by
    have no : ∀ vs H Q E, ¬ spE K (run (progOf D) fu 0 i) vs H Q E := fun vs H Q E ⟨φ, xs, h, v, h', r, rv, e, q⟩ => by cases e
    exact ⟨fun vs H Q E z => absurd z (no vs H Q E), fun A outer s H args us vs Q E _ _ _ _ _ z => absurd z (no vs H Q E)⟩
  | n + 1, i, d, f, fd, hd, F => by
    have hp : (progOf D)[i]? = some d.fn := by unfold progOf; rw [List.getElem?_map, hd]; rfl
    have open1 : ∀ {xs h v h'}, run (progOf D) fu (n + 1) i xs h = some (v, h') → xs.length = d.ps.length ∧
        ((∃ s, evSs (run (progOf D) fu n) fu d.cs (xs.map some ++ List.replicate (d.N.length - d.ps.length) none) h = some (.nx, s, h') ∧ v = .non) ∨
         (∃ s, evSs (run (progOf D) fu n) fu d.cs (xs.map some ++ List.replicate (d.N.length - d.ps.length) none) h = some (.rt v, s, h'))) := fun {xs h v h'} e => by
      simp only [run, hp] at e
      split at e
      · rename_i hl
        refine ⟨hl, ?_⟩
        split at e
        · rename_i s1 h1 e1
          cases e
          exact .inl ⟨_, e1, rfl⟩
        · rename_i v1 s1 h1 e1
          cases e
          exact .inr ⟨_, e1⟩
        · cases e
      · cases e
    refine fnG_of (N := d.N) F (T.sc _ _ hd) (fun vs H Q E ⟨φ, xs, h, v, h', r, rv, e, q⟩ => by rw [← rv.length]; exact (open1 e).1) fun cd A outer s H vs Q E room grd ⟨φ, xs, h, v, h', r, rv, e, q⟩ => ?_
    have G : GOk (run (progOf D) fu n) ⟨d.N, gl, defScope d.st, none⟩ (cxOf CX0 P w K mg base d.N d.x (defScope d.st) f cd A outer s H E).nox := by
      refine ⟨rfl, rfl, (T.sc _ _ hd).nd, rfl, ⟨fun _ x => rfl, fun s0 h => by cases h⟩, grd, ?_, hsm, T.blt, fun x j np ds hj => ?_, T.glV, T.bfn, T.kd⟩
      · have := room.un
        show (A.deeper _).units + 100 < cLine
        omega
      · obtain ⟨d2, h1, rfl, rfl, rfl⟩ := T.glF x j np ds hj
        obtain ⟨f2, fd2, F2, m2, b2⟩ := T.fn _ _ h1
        exact ⟨n, f2, fd2, d2.ps, runs_ok hsm T n j d2 f2 fd2 h1 F2, room, m2, F2.kp, rfl, b2⟩
    refine ⟨_, cSs_ok (fu := fu) (fun st cs hs => cS_ok 20 st cs hs G PassesOwn.never) _ _ (T.cs _ _ hd), ?_⟩
    obtain ⟨hl, hr⟩ := open1 e
    have rs := start_RS (N := d.N) rv
    rw [hl] at rs
    rcases hr with ⟨s1, e1, rfl⟩ | ⟨s1, e1⟩
    · exact ⟨φ, _, h, .nx, s1, h', r, rs, e1, fun φ2 H2 σ2 x2 r2 rs2 => q φ2 H2 _ x2 r2 .non⟩
    · exact ⟨φ, _, h, .rt v, s1, h', r, rs, e1, fun φ2 H2 σ2 x2 r2 rs2 v2 rv2 => q φ2 H2 v2 x2 r2 rv2⟩
end
/-- the script's place in the walk: what the law's def promises gives the claim's code -/
theorem law_callG {P : Program} {w : World} {K : PySem.W.Frag} {mg mb : Str → Option Value} {k : Nat} {fa a : Addr} {fd : FuncData} {x : Str} {sp : Sp} {s : Shared} {us : List Value} {ns : List Int}
    (inK : K.In s.heap) (nsM : s.heap.Ns mainGlobals mg) (nsB : s.heap.Ns builtinsNs mb) (isB : ∀ y : Str, y ≠ "__name__" → mb y = bootBuiltins y) (nl : s.heap.NoLimit) (ng : s.gens = #[])
    (scr : s.heap.get? a = some { cls := .type "list", data := .seq us.toArray }) (iar : IntsAre us ns) (short : ns.length ≤ sizeLine) (room : Room k callerA)
    (nsS : ∃ mm, s.heap.Ns sysModules mm) (law : ∀ base : Heap, K.In base → base.Ns mainGlobals mg → (∃ o, base.get? sysModules = some o) → FnG P w K mg base k fa fd [x] sp) (bd : ∀ (s : Shared) (u : Value), K.In s.heap → BindsTo s fd ⟨[u], []⟩ [(x, u)])
    (want : ∀ H : Hp, FzL K H a (ns.map V.int) → sp [.ref a] H (fun v _ => v = .bl true) E0) :
    codeAny (model P w) callerA (.call (.ref fa) ⟨[.ref a], []⟩) (fun r t => r = .ok (.ret (.bool true)) ∧ OldK s.heap t.heap ∧ t.os = s.os ∧ AllBare t.gens) s := by
  have vals := vals_ints iar
  have len := iar.length
  let ob : Obj := { cls := .type "list", data := .seq us.toArray }
  let H : Hp := fun b => if b = a ∧ K.lookup a = none then some (.frz ob (.lst (ns.map V.int))) else none
  have frz : FzL K H a (ns.map V.int) := by
    cases c : K.lookup a with
    | none => exact .inl ⟨ob, if_pos ⟨rfl, c⟩⟩
    | some o =>
      have z := inK a o c
      rw [scr] at z
      cases z
      exact .inr ⟨_, us.toArray, _, c, rfl, rfl, rfl, by rw [List.size_toArray, len]; exact short, by simpa using vals⟩
  have Hin : ∀ b u, H b = some u → b = a ∧ K.lookup a = none ∧ u = .frz ob (.lst (ns.map V.int)) := fun b u z => by
    by_cases c : b = a ∧ K.lookup a = none
    · have z2 := (if_pos c).symm.trans z
      cases z2
      exact ⟨c.1, c.2, rfl⟩
    · have z2 := (if_neg c).symm.trans z
      cases z2
  have hok : HOk P w H s.heap := fun b u z => by
    obtain ⟨rfl, c, rfl⟩ := Hin b u z
    exact ⟨scr, by rw [List.length_map]; exact short, us, _, vals, scr⟩
  have keep : ∀ {b : Addr} {o : Obj}, s.heap.get? b = some o → (b ≠ a ∨ K.lookup a ≠ none) → (hidT s.heap H).get? b = some o := fun {b o} z c => by
    refine hidT_get z ?_
    cases q : H b with
    | none => rfl
    | some u =>
      obtain ⟨e1, e2, _⟩ := Hin b u q
      rcases c with c | c
      · exact absurd e1 c
      · exact absurd e2 c
  have nsOf : ∀ {b : Addr} {m : Str → Option Value}, s.heap.Ns b m → (hidT s.heap H).Ns b m := fun {b m} ⟨o, es, ep, e, d, r⟩ => by
    refine ⟨o, es, ep, keep e (.inl fun z => ?_), d, r⟩
    subst z
    rw [scr] at e
    cases e
    have d2 : Data.seq us.toArray _ = Data.dict es ep := d
    cases d2
  have inB : K.In (hidT s.heap H) := fun b o z => keep (inK b o z) (by
    by_cases c : b = a
    · subst c
      exact .inr (by rw [z]; exact fun q => by cases q)
    · exact .inl c)
  have noB : (hidT s.heap H).NoLimit := let ⟨mc, h1, h2⟩ := nl; ⟨mc, nsOf h1, h2⟩
  have env0 : Env0 P w K mg (hidT s.heap H) callerA [] s H :=
    ⟨rfl, ⟨inB, nsOf nsM, ⟨mb, nsOf nsB, isB⟩, noB⟩, fun b o z => of_hidT z, Nat.le_of_eq (hidT_size _ _), trivial, fun b z => absurd (show b ∈ ([] : List Addr) from z) (by simp), hok, .of_eq ng⟩
  have smB : ∃ o, (hidT s.heap H).get? sysModules = some o := by
    obtain ⟨mm, hmm⟩ := nsS
    obtain ⟨o, _, _, e, _⟩ := nsOf hmm
    exact ⟨o, e⟩
  have run := (law _ inB (nsOf nsM) smB).run callerA [] s H ⟨[.ref a], []⟩ [.ref a] [.ref a] _ _ room rfl env0 (bd s (.ref a) inK) (.cons rfl .nil) (want H frz)
  refine codeAny_mono run fun r t out => ?_
  match r, out with
  | .error e, out => exact False.elim out
  | .ok .next, out => exact False.elim out
  | .ok .brk, out => exact False.elim out
  | .ok .cont, out => exact False.elim out
  | .ok (.ret u), ⟨v, H2, os, bare, un, hok2, rel, q⟩ =>
    have q2 : v = .bl true := q
    subst q2
    obtain rfl : u = Value.bool true := rel
    refine ⟨rfl, OldK.of_keep fun b o e => ?_, os, bare⟩
    cases c : H b with
    | none => exact un.keep b o e c (by intro z; exact absurd (show b ∈ ([] : List Addr) from z) (by simp)) (by simp)
    | some u =>
      obtain ⟨_, _, rfl⟩ := Hin b u c
      obtain ⟨e1, _⟩ := hok b _ c
      obtain ⟨e2, _⟩ := hok2 b _ (un.frzs b _ _ c)
      exact (e.symm.trans e1).symm ▸ e2
/-- THE END: a law whose def, run by the evaluator, says True of every script of at most n iar -/
theorem law_end {l : PySem.W.OpenLaw} {n k fu i : Nat} {q : Program} {loose : List Str} {XP : (Str → Option Value) → Heap → Prop} {YP : World → Heap → Prop} {d : DefRec} {K : Params → PySem.W.Frag} {D : List Dd} {gl : List (Str × GI)} {x : Str} {dd : Dd}
    (hn : l.most = some n) (hn2 : n ≤ sizeLine) (himp : importsNone q = true) (hdf : d.params.defaults = []) (hr : Room k callerA) (hY : ∀ (w : World) (h : Heap), YP w h → (K w.params).In h)
    (hi : D[i]? = some dd) (hx : dd.x = d.name) (hp : dd.ps = [x])
    (T : ∀ (w : World) (mg : Str → Option Value) (h : Heap), (K w.params).In h → h.Ns mainGlobals mg → TopOk w (K w.params) mg D gl)
    (law : ∀ ns : List Int, ns.length ≤ n → ∃ h, run (progOf D) fu k i [.fl (ns.map .int)] [] = some (.bl true, h)) :
    PySem.W.WalkO q loose XP YP l.row.toRowW d [] (fun f vs => PySem.call f vs) := by
  refine Att.attach_call hn hdf fun w s0 s1 mg mb fa o pm cd doc a vs ns G Y ho hd hcd hmg hobj hints hlen hg => ?_
  have inK := hY w _ Y
  have top := T w mg _ inK G.T.g
  obtain ⟨f, fd, F, m, bE⟩ := top.fn _ _ hi
  rw [hx, hmg] at m
  cases m
  refine law_callG (fd := fd) (x := x) (sp := spE (K w.params) (run (progOf D) fu k i)) inK G.T.g G.T.b G.T.builtins G.T.nolimit hg hobj hints (Nat.le_trans hlen hn2) hr (let ⟨mm, h1, _⟩ := (G.T.seer himp).mods; ⟨mm, h1⟩) (fun base _ _ hsm => ?_) (fun s u inS => ?_) fun H fz => ?_
  · have := runs_ok (P := l.prog) (w := w) (base := base) (fu := fu) hsm top k i dd _ _ hi F
    rw [hp] at this
    exact this
  · obtain ⟨vs, us, r1, r2, bb⟩ := bE dd.ps.length [] (by unfold fillA; rw [if_pos rfl])
    have e1 : vs = [] := by
      have := r2 [] (fun _ => none)
      cases this
      rfl
    subst e1
    have e2 : us = [] := by cases r1; rfl
    subst e2
    have := bb s [u] inS (by rw [hp]; rfl)
    rw [hp] at this
    exact this
  · obtain ⟨h, e⟩ := law ns hlen
    refine ⟨[], [.fl (ns.map .int)], [], _, _, ⟨rfl, List.nodup_nil, fun n a o z => by simp at z⟩, .cons (.fl fz ?_) .nil, e, fun φ2 H2 v e2 r2 rv => ?_⟩
    · clear fz hints hlen e hobj
      induction ns with
      | nil => exact .nil
      | cons x xs ih => exact .cons (.int x) ih
    · cases rv
      rfl
end EV

set_option Elab.async false
set_option linter.all false
set_option maxRecDepth 100000
set_option maxHeartbeats 8000000
/-! EV16: the top of a text, put together from what k_is shows. -/
namespace EV
open PySem PySem.Spec L2 PyProof.Rows

/-- its parameters are bound in their order -/
def ParOk (x : Str) (st : Stmt) (ps : List Str) : Prop := ∀ (kV doc pm : Value) (an : Option Addr) (cdv ct : Value) (us : List Value), us.length = ps.length →
  bindArgs (PySem.W.fnOf x x (defArgs st) (defBody st) (defScope st) .none kV doc pm an cdv ct) ⟨us, []⟩ = pure (ps.zip us)
/-- a def stands at the top, its parameters are bound in their order, with the defaults where they are left out -/
def DefAt (K : PySem.W.Frag) (d : Dd) : Prop := ∃ f fd, PySem.W.nsIn K mainGlobals d.x = some (some (.ref f)) ∧ FunE K d.x d.x d.st f fd ∧ BindE K fd d.ps d.ds
theorem def_mk {K : PySem.W.Frag} {h : Heap} {d : Dd} (par : ParOk d.x d.st d.ps) (e0 : d.ds = []) (_ : K.In h) {f : Addr} {oc : Value} {od an : Option Addr} {osl : Array (Option Value)} {kV doc pm cdv ct : Value} (a : PySem.W.nsIn K mainGlobals d.x = some (some (.ref f)))
    (l : K.lookup f = some ⟨oc, od, .func (PySem.W.fnOf d.x d.x (defArgs d.st) (defBody d.st) (defScope d.st) .none kV doc pm an cdv ct), osl⟩) (c : PySem.W.codeIn K cdv d.x = true) (k : PySem.W.keepIn K (.ref f) = true) : DefAt K d := by
  have F := fun_mk l c k
  exact ⟨f, _, a, .of F, by rw [e0]; exact .none (F.binds par)⟩
/-- how the parameters of a def with defaults are bound: from the first n on the defaults stand in -/
def ParD (x : Str) (st : Stmt) (ps : List Str) (nd : Nat) : Prop := ∀ j, j ≤ nd → ∀ (T : Addr) (kV doc pm : Value) (an : Option Addr) (cdv ct : Value) (us its : List Value), us.length + (nd - j) = ps.length → its.length = nd →
  ∃ k, bindArgs (PySem.W.fnOf x x (defArgs st) (defBody st) (defScope st) (.ref T) kV doc pm an cdv ct) ⟨us, []⟩ = seqItems? (.ref T) >>= k ∧ k (some its.toArray) = pure (ps.zip (us ++ its.drop j))
structure DdOk (gl : List (Str × GI)) (d : Dd) : Prop where
  sc : FnScope d.N d.ps (defScope d.st)
  cs : cSs (cS 20 ⟨d.N, gl, defScope d.st, none⟩) (defBody d.st) = some d.cs
def glFB (D : List Dd) (gl : List (Str × GI)) : Bool := gl.all fun p => match p.2 with
  | .fn i np ds => match D[i]? with
    | some d => decide (d.x = p.1) && decide (d.ps.length = np) && decide (d.ds = ds)
    | none => false
  | _ => true
def AllOk (P : Dd → Prop) : List Dd → Prop
  | [] => True
  | d :: D => P d ∧ AllOk P D
theorem AllOk.get {P : Dd → Prop} : ∀ {D : List Dd}, AllOk P D → ∀ (i : Nat) (d : Dd), D[i]? = some d → P d
  | d :: D, h, 0, d2, e => by cases e; exact h.1
  | d :: D, h, i + 1, d2, e => AllOk.get h.2 i d2 (by simpa using e)
theorem mem_lookup {α : Type} {x : Str} {v : α} : ∀ {l : List (Str × α)}, l.lookup x = some v → (x, v) ∈ l
  | (y, u) :: l, e => by
    rw [List.lookup_cons] at e
    split at e
    · rename_i c
      cases e
      rw [eq_of_beq c]
      exact List.mem_cons_self
    · exact List.mem_cons_of_mem _ (mem_lookup e)
/-- what a global name of the text stands for -/
def GlOk (w : World) (K : PySem.W.Frag) (mg : Str → Option Value) : Str × GI → Prop
  | (x, .val v) => ∃ u z, mg x = some u ∧ RelV z u ∧ ∀ φ H, RV K φ H v z
  | (x, .bfn b) => mg x = some (.builtin (fbI b))
  | (x, .kd kvs) => ∃ q, mg x = some (.ref q) ∧ ∀ z v, kvs.lookup z = some v → ∃ u, KDct K w q z u ∧ ∀ φ H, RV K φ H v u
  | (_, .fn _ _ _) => True
def AllG (P : Str × GI → Prop) : List (Str × GI) → Prop
  | [] => True
  | d :: D => P d ∧ AllG P D
theorem AllG.mem {P : Str × GI → Prop} : ∀ {D : List (Str × GI)}, AllG P D → ∀ d, d ∈ D → P d
  | d :: D, h, d2, e => by
    rcases List.mem_cons.mp e with rfl | e
    · exact h.1
    · exact AllG.mem h.2 _ e
theorem top_mk {w : World} {K : PySem.W.Frag} {mg : Str → Option Value} {h : Heap} {D : List Dd} {gl : List (Str × GI)} (X : K.In h) (G : h.Ns mainGlobals mg) (hD : AllOk (DdOk gl) D) (hA : AllOk (DefAt K) D) (hF : glFB D gl = true)
    (hV : AllG (GlOk w K mg) gl) (hB : ∀ x : Str, x ∈ bNames → mg x = none) : TopOk w K mg D gl where
  sc i d e := (hD.get i d e).sc
  cs i d e := (hD.get i d e).cs
  fn i d e := by
    obtain ⟨f, fd, a, F, b⟩ := hA.get i d e
    exact ⟨f, fd, F, PySem.W.mg_of X G a, b⟩
  glF x i np ds e := by
    have q := List.all_eq_true.mp hF _ (mem_lookup e)
    simp only at q
    split at q
    · rename_i d hd
      simp only [Bool.and_eq_true, decide_eq_true_eq] at q
      exact ⟨d, hd, q.1.1, q.1.2, q.2⟩
    · cases q
  glV x v e := hV.mem _ (mem_lookup e)
  blt := hB
  bfn x v e := hV.mem _ (mem_lookup e)
  kd x v e := hV.mem _ (mem_lookup e)
theorem noB {K : PySem.W.Frag} {mg : Str → Option Value} {h : Heap} (X : K.In h) (G : h.Ns mainGlobals mg) (z0 : PySem.W.nsIn K mainGlobals "range" = some none) (z1 : PySem.W.nsIn K mainGlobals "enumerate" = some none) (z2 : PySem.W.nsIn K mainGlobals "len" = some none) (z3 : PySem.W.nsIn K mainGlobals "abs" = some none) (z4 : PySem.W.nsIn K mainGlobals "int" = some none) (z5 : PySem.W.nsIn K mainGlobals "max" = some none) (z6 : PySem.W.nsIn K mainGlobals "min" = some none) (z7 : PySem.W.nsIn K mainGlobals "tuple" = some none) (z8 : PySem.W.nsIn K mainGlobals "list" = some none) (z9 : PySem.W.nsIn K mainGlobals "repr" = some none) (z10 : PySem.W.nsIn K mainGlobals "sorted" = some none) (z11 : PySem.W.nsIn K mainGlobals "sum" = some none) (z12 : PySem.W.nsIn K mainGlobals "any" = some none) (z13 : PySem.W.nsIn K mainGlobals "all" = some none) (z14 : PySem.W.nsIn K mainGlobals "isinstance" = some none) (z15 : PySem.W.nsIn K mainGlobals "bool" = some none) (z16 : PySem.W.nsIn K mainGlobals "str" = some none) (z17 : PySem.W.nsIn K mainGlobals "dict" = some none) (z18 : PySem.W.nsIn K mainGlobals "zip" = some none) (z19 : PySem.W.nsIn K mainGlobals "set" = some none) : ∀ x : Str, x ∈ bNames → mg x = none := by
  intro x hx
  unfold bNames at hx
  simp only [List.mem_cons, List.not_mem_nil, or_false] at hx
  rcases hx with rfl | rfl | rfl | rfl | rfl | rfl | rfl | rfl | rfl | rfl | rfl | rfl | rfl | rfl | rfl | rfl | rfl | rfl | rfl | rfl
  all_goals exact PySem.W.mg_none_of X G (by assumption)
/-! ### constants -/
/-- a constant of the text -/
def KV1 (K : PySem.W.Frag) (v : PV) (u : Value) : Prop := ∃ w, RelV w u ∧ ∀ φ H, RV K φ H v w
def KVs (K : PySem.W.Frag) : List PV → List Value → Prop
  | [], [] => True
  | v :: vs, u :: us => KV1 K v u ∧ KVs K vs us
  | _, _ => False
theorem KVs.get {K : PySem.W.Frag} : ∀ {vs : List PV} {us : List Value}, KVs K vs us → ∃ ws, Vals ws us ∧ ∀ φ H, RVs K φ H vs ws
  | [], [], _ => ⟨[], .nil, fun _ _ => .nil⟩
  | v :: vs, u :: us, ⟨⟨w, h1, h2⟩, h⟩ => by
    obtain ⟨ws, h3, h4⟩ := KVs.get h
    exact ⟨w :: ws, .cons h1 h3, fun φ H => .cons (h2 φ H) (h4 φ H)⟩
  | [], _ :: _, h => h.elim
  | _ :: _, [], h => h.elim
theorem kv_non {K : PySem.W.Frag} : KV1 K .non .none := ⟨.non, rfl, fun _ _ => .non⟩
theorem kv_bl {K : PySem.W.Frag} {b : Bool} : KV1 K (.bl b) (.bool b) := ⟨.bl b, rfl, fun _ _ => .bl b⟩
theorem kv_int {K : PySem.W.Frag} {i : Int} {t : Tok} : KV1 K (.int i) (.int i t) := ⟨.int i, ⟨t, rfl⟩, fun _ _ => .int i⟩
theorem kv_str {K : PySem.W.Frag} {x : Str} {t : Tok} : KV1 K (.str x) (.str x t) := ⟨.str x, ⟨t, rfl⟩, fun _ _ => .str x⟩
theorem kv_tup {K : PySem.W.Frag} {a : Addr} {o : Obj} {its : Array Value} {n : Nat} {vs : List PV} (l : K.lookup a = some o) (hc : o.cls = .type "tuple") (hd : o.data = .seq its n) (hz : its.size ≤ sizeLine) (h : KVs K vs its.toList) : KV1 K (.tup vs) (.ref a) := by
  obtain ⟨ws, h1, h2⟩ := h.get
  exact ⟨.ref a, rfl, fun φ H => .tup (.inr ⟨o, its, n, l, hc, hd, hz, h1⟩) (h2 φ H)⟩
theorem gl_val {w : World} {K : PySem.W.Frag} {mg : Str → Option Value} {h : Heap} (X : K.In h) (G : h.Ns mainGlobals mg) {x : Str} {u : Value} {v : PV} (e : PySem.W.nsIn K mainGlobals x = some (some u)) (k : KV1 K v u) : GlOk w K mg (x, .val v) := by
  obtain ⟨z, h1, h2⟩ := k
  exact ⟨u, z, PySem.W.mg_of X G e, h1, h2⟩
def KDs (K : PySem.W.Frag) (a : Addr) : List (Str × PV) → Prop
  | [] => True
  | (x, v) :: r => (∃ u, PySem.W.nsIn K a x = some (some u) ∧ KV1 K v u) ∧ KDs K a r
theorem KDs.cons {K : PySem.W.Frag} {a : Addr} {x : Str} {v : PV} {u : Value} {r : List (Str × PV)} (h : PySem.W.nsIn K a x = some (some u)) (k : KV1 K v u) (t : KDs K a r) : KDs K a ((x, v) :: r) := ⟨⟨u, h, k⟩, t⟩
theorem KDs.get {K : PySem.W.Frag} {a : Addr} : ∀ {kvs : List (Str × PV)}, KDs K a kvs → ∀ z v, kvs.lookup z = some v → ∃ u, PySem.W.nsIn K a z = some (some u) ∧ KV1 K v u
  | (x, v) :: r, ⟨h1, h2⟩, z, v', e => by
    rw [List.lookup_cons] at e
    split at e
    · rename_i c
      cases e
      rw [eq_of_beq c]
      exact h1
    · exact KDs.get h2 z v' e
theorem gl_kd {w : World} {K : PySem.W.Frag} {mg : Str → Option Value} {h : Heap} (X : K.In h) (G : h.Ns mainGlobals mg) {x : Str} {a : Addr} {es : Array DictEntry} {n : Nat} {kvs : List (Str × PV)} (e : PySem.W.nsIn K mainGlobals x = some (some (.ref a)))
    (l : K.lookup a = some ⟨.type "dict", none, .dict es n, #[]⟩) (hk : PySem.W.KeysLit w.params es.toList) (k : KDs K a kvs) : GlOk w K mg (x, .kd kvs) := by
  refine ⟨a, PySem.W.mg_of X G e, fun z v q => ?_⟩
  obtain ⟨u, h1, y, h2, h3⟩ := k.get z v q
  exact ⟨y, ⟨es, n, u, l, hk, h1, h2⟩, h3⟩
/-- a def with defaults -/
theorem defD_mk {K : PySem.W.Frag} {h : Heap} {d : Dd} {nd : Nat} (par : ParD d.x d.st d.ps nd) (hnd : d.ds.length = nd) (hz : d.ds ≠ []) (_ : K.In h) {f T : Addr} {oc : Value} {od an : Option Addr} {osl : Array (Option Value)} {kV doc pm cdv ct : Value} {o : Obj} {its : Array Value} {n : Nat} (a : PySem.W.nsIn K mainGlobals d.x = some (some (.ref f)))
    (l : K.lookup f = some ⟨oc, od, .func (PySem.W.fnOf d.x d.x (defArgs d.st) (defBody d.st) (defScope d.st) (.ref T) kV doc pm an cdv ct), osl⟩) (c : PySem.W.codeIn K cdv d.x = true) (k : PySem.W.keepIn K (.ref f) = true)
    (lT : K.lookup T = some o) (hd : o.data = .seq its n) (hv : KVs K d.ds its.toList) : DefAt K d := by
  refine ⟨f, _, a, ⟨⟨oc, od, _, kV, doc, pm, an, cdv, ct, osl, rfl, l, c⟩, k⟩, fun m dl hm => ?_⟩
  obtain ⟨ws, h1, h2⟩ := hv.get
  have hws : ws.length = nd := by rw [← hnd]; exact (h2 [] (fun _ => none)).length.symm
  have F : FunD K d.x d.x (defArgs d.st) (defBody d.st) (defScope d.st) ws [] f (PySem.W.fnOf d.x d.x (defArgs d.st) (defBody d.st) (defScope d.st) (.ref T) kV doc pm an cdv ct) :=
    ⟨⟨oc, od, _, kV, doc, pm, an, cdv, ct, osl, rfl, l, c, .inr ⟨fun z => by rw [z] at hws; exact hz (List.eq_nil_of_length_eq_zero (by rw [hnd]; exact hws.symm)), T, o, its.toList, n, rfl, lT, by simpa using hd, h1⟩, .inl rfl⟩, k⟩
  have key : ∀ j, j ≤ nd → (∃ m, m + (nd - j) = d.ps.length) → dl = d.ds.drop j → ∃ (vs : List V) (us : List Value), Vals vs us ∧ (∀ φ H, RVs K φ H dl vs) ∧ Binds K (PySem.W.fnOf d.x d.x (defArgs d.st) (defBody d.st) (defScope d.st) (.ref T) kV doc pm an cdv ct) d.ps us := by
    rintro j hj ⟨m, hm2⟩ rfl
    obtain ⟨us, r, b⟩ := F.binds1 m j (fun z => by rw [z] at hws; exact hz (List.eq_nil_of_length_eq_zero (by rw [hnd]; exact hws.symm))) (by rw [hws]; exact hm2) fun T kV doc pm an cdv ct us its e1 e2 =>
      par j hj T kV doc pm an cdv ct us its (by rw [e1]; exact hm2) (by rw [e2, hws])
    exact ⟨ws.drop j, us, r, fun φ H => RVs.drop j (h2 φ H), b⟩
  unfold fillA at hm
  split at hm
  · cases hm
    exact key nd (Nat.le_refl _) ⟨d.ps.length, by omega⟩ (by rw [List.drop_eq_nil_of_le (by omega)])
  · split at hm
    · rename_i c
      cases hm
      rw [hnd] at c
      exact key (d.ds.length - (d.ps.length - m)) (by omega) ⟨m, by omega⟩ rfl
    · cases hm
end EV

set_option Elab.async false
set_option linter.all false
set_option maxRecDepth 100000
set_option maxHeartbeats 4000000
/-! EV17: what the evaluator says, told backwards: one rule for each form. No program in sight. -/
namespace EV
open PySem PySem.Spec

/-- r is there, and Q of it -/
def R {α : Type} (r : Option α) (Q : α → Prop) : Prop := ∃ x, r = some x ∧ Q x
section
variable {α : Type}
@[simp] theorem R_some {x : α} {Q : α → Prop} : R (some x) Q ↔ Q x := ⟨fun ⟨y, e, q⟩ => by cases e; exact q, fun q => ⟨x, rfl, q⟩⟩
@[simp] theorem R_none {Q : α → Prop} : R (none : Option α) Q ↔ False := ⟨fun ⟨y, e, q⟩ => (by cases e), False.elim⟩
@[simp] theorem R_if {c : Prop} [Decidable c] {r : Option α} {Q : α → Prop} : R (if c then r else none) Q ↔ c ∧ R r Q := by
  by_cases h : c
  · rw [if_pos h]; exact ⟨fun q => ⟨h, q⟩, fun q => q.2⟩
  · rw [if_neg h]; exact ⟨fun q => (R_none.mp q).elim, fun q => (h q.1).elim⟩
@[simp] theorem R_map {β : Type} {f : α → β} {r : Option α} {Q : β → Prop} : R (r.map f) Q ↔ R r fun x => Q (f x) := by
  cases r with
  | none => exact ⟨fun q => (R_none.mp q).elim, fun q => (R_none.mp q).elim⟩
  | some x => exact (R_some (Q := Q)).trans (R_some (Q := fun x => Q (f x))).symm
theorem R.mono {r : Option α} {Q Q' : α → Prop} (h : R r Q) (f : ∀ x, Q x → Q' x) : R r Q' := let ⟨x, e, q⟩ := h; ⟨x, e, f x q⟩
end
def E (F : Ca) (fu : Nat) (c : CE) (s : Sg) (h : EH) (Q : PV → EH → Prop) : Prop := R (ev F fu c s h) fun r => Q r.1 r.2
def Es (F : Ca) (fu : Nat) (c : CEs) (s : Sg) (h : EH) (Q : List PV → EH → Prop) : Prop := R (evs F fu c s h) fun r => Q r.1 r.2
def Ei (F : Ca) (fu : Nat) (c : CI) (s : Sg) (h : EH) (Q : Itr → EH → Prop) : Prop := R (evI F fu c s h) fun r => Q r.1 r.2
def Rr (r : Rt) (Q : PV → EH → Prop) : Prop := R r fun r => Q r.1 r.2
def T (h : EH) (x : PV) (Q : Bool → Prop) : Prop := R (truth h x) Q
def S (F : Ca) (fu : Nat) (c : CS) (s : Sg) (h : EH) (D : Fl → Sg → EH → Prop) : Prop := R (evS F fu c s h) fun r => D r.1 r.2.1 r.2.2
def Ss (F : Ca) (fu : Nat) (c : CSs) (s : Sg) (h : EH) (D : Fl → Sg → EH → Prop) : Prop := R (evSs F fu c s h) fun r => D r.1 r.2.1 r.2.2
section
variable {F : Ca} {fu : Nat} {s : Sg} {h : EH} {a b c e : CE} {es r : CEs} {Q : PV → EH → Prop} {Qs : List PV → EH → Prop} {Qi : Itr → EH → Prop} {D : Fl → Sg → EH → Prop} {ss bs : CSs} {st : CS}
@[simp] theorem Rr_ok {v : PV} : Rr (ok v h) Q ↔ Q v h := R_some
@[simp] theorem Rr_some {v : PV × EH} : Rr (some v) Q ↔ Q v.1 v.2 := R_some
@[simp] theorem Rr_none : Rr none Q ↔ False := R_none
@[simp] theorem Rr_if {c : Prop} [Decidable c] {r : Rt} : Rr (if c then r else none) Q ↔ c ∧ Rr r Q := R_if
@[simp] theorem Rr_new {o : EO} : Rr (new o h) Q ↔ Q (.ref h.length) (h ++ [o]) := R_some
@[simp] theorem Rr_newT {xs : List PV} : Rr (newT xs h) Q ↔ xs.length ≤ sizeLine ∧ Q (.tup xs) h := R_if.trans (and_congr_right fun _ => R_some)
@[simp] theorem Rr_newL {xs : List PV} : Rr (newL xs h) Q ↔ xs.length ≤ sizeLine ∧ Q (.ref h.length) (h ++ [.lst xs]) := R_if.trans (and_congr_right fun _ => R_some)
@[simp] theorem E_lit {v : PV} : E F fu (.lit v) s h Q ↔ Q v h := R_some
@[simp] theorem E_var {i : Nat} : E F fu (.var i) s h Q ↔ ∃ v, s[i]? = some (some v) ∧ Q v h := by
  unfold E R
  simp only [ev]
  constructor
  · rintro ⟨x, e, q⟩
    split at e
    · rename_i v hv
      cases e
      exact ⟨v, hv, q⟩
    · cases e
  · rintro ⟨v, hv, q⟩
    exact ⟨(v, h), by rw [hv], q⟩
@[simp] theorem E_bin {o : BOp} : E F fu (.bin o a b) s h Q ↔ E F fu a s h fun x h1 => E F fu b s h1 fun y h2 => Rr (opB o x y h2) Q := by
  unfold E
  simp only [ev]
  cases ev F fu a s h with
  | none => simp only [R_none]
  | some x =>
    obtain ⟨x, h1⟩ := x
    simp only [R_some]
    cases ev F fu b s h1 with
    | none => simp only [R_none]
    | some y => simp only [R_some]; exact Iff.rfl
@[simp] theorem E_neg : E F fu (.neg a) s h Q ↔ E F fu a s h fun x h1 => ∃ i, x = .int i ∧ Q (.int (-i)) h1 := by
  unfold E
  simp only [ev]
  cases ev F fu a s h with
  | none => simp only [R_none]
  | some x =>
    obtain ⟨x, h1⟩ := x
    simp only [R_some]
    cases x <;> simp [R_none, R_some]
@[simp] theorem E_nt : E F fu (.nt a) s h Q ↔ E F fu a s h fun x h1 => T h1 x fun b => Q (.bl (!b)) h1 := by
  unfold E T
  simp only [ev]
  cases ev F fu a s h with
  | none => simp only [R_none]
  | some x =>
    obtain ⟨x, h1⟩ := x
    simp only [R_some]
    cases truth h1 x <;> simp only [R_none, R_some]
@[simp] theorem E_and : E F fu (.and a b) s h Q ↔ E F fu a s h fun x h1 => T h1 x fun t => if t = true then E F fu b s h1 Q else Q x h1 := by
  unfold E T
  simp only [ev]
  cases ev F fu a s h with
  | none => simp only [R_none]
  | some x =>
    obtain ⟨x, h1⟩ := x
    simp only [R_some]
    cases truth h1 x with
    | none => simp only [R_none]
    | some t => cases t <;> simp [R_some]
@[simp] theorem E_or : E F fu (.or a b) s h Q ↔ E F fu a s h fun x h1 => T h1 x fun t => if t = true then Q x h1 else E F fu b s h1 Q := by
  unfold E T
  simp only [ev]
  cases ev F fu a s h with
  | none => simp only [R_none]
  | some x =>
    obtain ⟨x, h1⟩ := x
    simp only [R_some]
    cases truth h1 x with
    | none => simp only [R_none]
    | some t => cases t <;> simp [R_some]
@[simp] theorem E_cmp {o : COp} : E F fu (.cmp o a b) s h Q ↔ E F fu a s h fun x h1 => E F fu b s h1 fun y h2 => R (opC o x y h2) fun t => Q (.bl t) h2 := by
  unfold E
  simp only [ev]
  cases ev F fu a s h with
  | none => simp only [R_none]
  | some x =>
    obtain ⟨x, h1⟩ := x
    simp only [R_some]
    cases ev F fu b s h1 with
    | none => simp only [R_none]
    | some y =>
      simp only [R_some]
      cases opC o x y.1 y.2 <;> simp only [R_none, R_some]
@[simp] theorem E_ife : E F fu (.ife c a b) s h Q ↔ E F fu c s h fun x h1 => T h1 x fun t => if t = true then E F fu a s h1 Q else E F fu b s h1 Q := by
  unfold E T
  simp only [ev]
  cases ev F fu c s h with
  | none => simp only [R_none]
  | some x =>
    obtain ⟨x, h1⟩ := x
    simp only [R_some]
    cases truth h1 x with
    | none => simp only [R_none]
    | some t => cases t <;> simp [R_some]
@[simp] theorem E_tup : E F fu (.tup es) s h Q ↔ Es F fu es s h fun xs h1 => Rr (newT xs h1) Q := by
  unfold E Es
  simp only [ev]
  cases evs F fu es s h <;> simp only [R_none, R_some]; exact Iff.rfl
@[simp] theorem E_lst : E F fu (.lst es) s h Q ↔ Es F fu es s h fun xs h1 => Rr (newL xs h1) Q := by
  unfold E Es
  simp only [ev]
  cases evs F fu es s h <;> simp only [R_none, R_some]; exact Iff.rfl
@[simp] theorem E_dict : E F fu (.dict es) s h Q ↔ Es F fu es s h fun xs h1 => R (pairUp xs) fun kvs => kvs.length ≤ 15 ∧ Rr (new (.dict (dmerge [] kvs)) h1) Q := by
  unfold E Es
  simp only [ev]
  cases evs F fu es s h with
  | none => simp only [R_none]
  | some x =>
    obtain ⟨x, h1⟩ := x
    simp only [R_some]
    cases pairUp x <;> simp only [R_none, R_some, R_if]; exact Iff.rfl
@[simp] theorem E_idx : E F fu (.idx a b) s h Q ↔ E F fu a s h fun x h1 => E F fu b s h1 fun y h2 => R (opIx x y h2) fun z => Q z h2 := by
  unfold E
  simp only [ev]
  cases ev F fu a s h with
  | none => simp only [R_none]
  | some x =>
    obtain ⟨x, h1⟩ := x
    simp only [R_some]
    cases ev F fu b s h1 with
    | none => simp only [R_none]
    | some y =>
      simp only [R_some]
      cases opIx x y.1 y.2 <;> simp only [R_none, R_some]
@[simp] theorem E_slc {f g : Bool} : E F fu (.slc f g a b c) s h Q ↔ E F fu a s h fun x h1 => E F fu b s h1 fun l h2 => E F fu c s h2 fun u h3 => R (partOf f l) fun l => R (partOf g u) fun u => Rr (opSl x l u h3) Q := by
  unfold E
  simp only [ev]
  cases ev F fu a s h with
  | none => simp only [R_none]
  | some x =>
    obtain ⟨x, h1⟩ := x
    simp only [R_some]
    cases ev F fu b s h1 with
    | none => simp only [R_none]
    | some y =>
      simp only [R_some]
      cases ev F fu c s y.2 with
      | none => simp only [R_none]
      | some z =>
        simp only [R_some]
        cases partOf f y.1 with
        | none => simp only [R_none]
        | some l =>
          simp only [R_some]
          cases partOf g z.1 <;> simp only [R_none, R_some]; exact Iff.rfl
@[simp] theorem E_rev : E F fu (.rev a) s h Q ↔ E F fu a s h fun x h1 => Rr (opRev x h1) Q := by
  unfold E
  simp only [ev]
  cases ev F fu a s h <;> simp only [R_none, R_some]; exact Iff.rfl
@[simp] theorem E_call {f : Nat} : E F fu (.call f es) s h Q ↔ Es F fu es s h fun xs h1 => Rr (F f xs h1) Q := by
  unfold E Es
  simp only [ev]
  cases evs F fu es s h <;> simp only [R_none, R_some]; exact Iff.rfl
@[simp] theorem E_bi {f : Bi} : E F fu (.bi f es) s h Q ↔ Es F fu es s h fun xs h1 => Rr (opBi f xs h1) Q := by
  unfold E Es
  simp only [ev]
  cases evs F fu es s h <;> simp only [R_none, R_some]; exact Iff.rfl
@[simp] theorem E_fb {f : Fb} : E F fu (.fb f es) s h Q ↔ Es F fu es s h fun xs h1 => Rr (opFb f xs h1) Q := by
  unfold E Es
  simp only [ev]
  cases evs F fu es s h <;> simp only [R_none, R_some]; exact Iff.rfl
@[simp] theorem E_meth {m : Me} : E F fu (.meth m a es) s h Q ↔ E F fu a s h fun x h1 => meK h1 x m = true ∧ Es F fu es s h1 fun xs h2 => Rr (opMe m x xs h2) Q := by
  unfold E Es
  simp only [ev]
  cases ev F fu a s h with
  | none => simp only [R_none]
  | some x =>
    obtain ⟨x, h1⟩ := x
    simp only [R_some, R_if]
    cases evs F fu es s h1 <;> simp only [R_none, R_some]; exact Iff.rfl
/-- what a comprehension does with an item -/
def compF (F : Ca) (fu : Nat) (e : CE) (t : Tg) (c : CE) (s : Sg) : PV → EH → Option (Option PV × EH) := fun x h2 => match bindT t x s with
  | none => none
  | some s2 => match ev F fu c s2 h2 with
    | none => none
    | some (b, h3) => match truth h3 b with
      | none => none
      | some false => some (none, h3)
      | some true => match ev F fu e s2 h3 with
        | none => none
        | some (y, h4) => some (some y, h4)
def Cp (F : Ca) (fu : Nat) (e : CE) (t : Tg) (c : CE) (s : Sg) (J : Itr) (h : EH) (Q : List PV → EH → Prop) : Prop := R (match J with
  | .st xs => compS (compF F fu e t c s) xs [] h
  | J => compD J (compF F fu e t c s) fu 0 [] h) fun r => Q r.1 r.2
@[simp] theorem E_comp {t : Tg} {it : CI} {ws : List Nat} : E F fu (.comp e t it c ws) s h Q ↔ Ei F fu it s h fun J h1 => Cp F fu e t c (wipeE s ws) J h1 fun acc h2 => Q (.ref h2.length) (h2 ++ [.lst acc]) := by
  unfold E Ei Cp
  simp only [ev]
  cases evI F fu it s h with
  | none => simp only [R_none]
  | some J =>
    obtain ⟨J, h1⟩ := J
    simp only [R_some]
    have z : ∀ (r : Option (List PV × EH)), R (match r with
        | none => none
        | some (acc, h5) => new (.lst acc) h5) (fun r => Q r.1 r.2) ↔ R r fun r => Q (.ref r.2.length) (r.2 ++ [.lst r.1]) := fun r => by
      cases r with
      | none => simp only [R_none]
      | some x => simp only [R_some]; exact R_some
    exact z _
/-- what a dict comprehension does with an item -/
def compFd (F : Ca) (fu : Nat) (k v : CE) (t : Tg) (c : CE) (s : Sg) : PV → EH → Option (Option (PV × PV) × EH) := fun x h2 => match bindT t x s with
  | none => none
  | some s2 => match ev F fu c s2 h2 with
    | none => none
    | some (b, h3) => match truth h3 b with
      | none => none
      | some false => some (none, h3)
      | some true => match ev F fu k s2 h3 with
        | none => none
        | some (y, h4) => match ev F fu v s2 h4 with
          | none => none
          | some (z, h5) => some (some (y, z), h5)
def Cpd (F : Ca) (fu : Nat) (k v : CE) (t : Tg) (c : CE) (s : Sg) (J : Itr) (h : EH) (Q : List (PV × PV) → EH → Prop) : Prop := R (compK J (compFd F fu k v t c s) (itFuel fu J) 0 [] h) fun r => Q r.1 r.2
@[simp] theorem E_dcomp {k v : CE} {t : Tg} {it : CI} {ws : List Nat} : E F fu (.dcomp k v t it c ws) s h Q ↔ Ei F fu it s h fun J h1 => Cpd F fu k v t c (wipeE s ws) J h1 fun acc h2 => Q (.ref h2.length) (h2 ++ [.dict acc]) := by
  unfold E Ei Cpd
  simp only [ev]
  cases evI F fu it s h with
  | none => simp only [R_none]
  | some J =>
    obtain ⟨J, h1⟩ := J
    simp only [R_some]
    have z : ∀ (r : Option (List (PV × PV) × EH)), R (match r with
        | none => none
        | some (acc, h5) => new (.dict acc) h5) (fun r => Q r.1 r.2) ↔ R r fun r => Q (.ref r.2.length) (r.2 ++ [.dict r.1]) := fun r => by
      cases r with
      | none => simp only [R_none]
      | some x => simp only [R_some]; exact R_some
    exact z _
@[simp] theorem Es_nil : Es F fu .nil s h Qs ↔ Qs [] h := R_some
@[simp] theorem Es_cons : Es F fu (.cons e r) s h Qs ↔ E F fu e s h fun x h1 => Es F fu r s h1 fun xs h2 => Qs (x :: xs) h2 := by
  unfold Es E
  simp only [evs]
  cases ev F fu e s h with
  | none => simp only [R_none]
  | some x =>
    simp only [R_some]
    cases evs F fu r s x.2 <;> simp only [R_none, R_some]
@[simp] theorem Es_star : Es F fu (.star e r) s h Qs ↔ E F fu e s h fun x h1 => R (isLT h1 x) fun ys => Es F fu r s h1 fun xs h2 => Qs (ys ++ xs) h2 := by
  unfold Es E
  simp only [evs]
  cases ev F fu e s h with
  | none => simp only [R_none]
  | some x =>
    obtain ⟨x, h1⟩ := x
    simp only [R_some]
    cases isLT h1 x with
    | none => simp only [R_none]
    | some ys =>
      simp only [R_some]
      cases evs F fu r s h1 <;> simp only [R_none, R_some]
/-- what is walked -/
def itrOf (h : EH) (x : PV) (Q : Itr → EH → Prop) : Prop := match x with
  | .tup xs => Q (.st xs) h
  | .fl xs => Q (.st xs) h
  | .ref n => match h[n]? with
    | some (.lst _) => Q (.dy n) h
    | some (.dict kvs) => Q (.st (kvs.map (·.1))) (h.set n (.fd kvs))
    | some (.fd kvs) => Q (.st (kvs.map (·.1))) h
    | _ => False
  | .str z => Q (.st (z.cps.toList.map fun c => .str ⟨#[c]⟩)) h
  | _ => False
def itmOf (h : EH) (x : PV) (Q : Itr → EH → Prop) : Prop := match x with
  | .ref n => match h[n]? with
    | some (.dict kvs) => Q (.st (kvs.map fun p => .tup [p.1, p.2])) (h.set n (.fd kvs))
    | some (.fd kvs) => Q (.st (kvs.map fun p => .tup [p.1, p.2])) h
    | _ => False
  | _ => False
def itrE (h : EH) : PV → Option Itr
  | .tup xs => some (.st (enumL 0 xs))
  | .fl xs => some (.st (enumL 0 xs))
  | .ref n => match h[n]? with
    | some (.lst _) => some (.dyE n)
    | _ => none
  | _ => none
@[simp] theorem Ei_val : Ei F fu (.val e) s h Qi ↔ E F fu e s h fun x h1 => itrOf h1 x Qi := by
  unfold Ei E
  simp only [evI]
  cases ev F fu e s h with
  | none => simp only [R_none]
  | some x =>
    obtain ⟨x, h1⟩ := x
    simp only [R_some]
    cases x <;> simp only [itrOf, R_none, R_some]
    rename_i n
    cases h1[n]? with
    | none => simp only [R_none]
    | some o => cases o <;> simp only [R_none, R_some]
@[simp] theorem Ei_items : Ei F fu (.items e) s h Qi ↔ E F fu e s h fun x h1 => itmOf h1 x Qi := by
  unfold Ei E
  simp only [evI]
  cases ev F fu e s h with
  | none => simp only [R_none]
  | some x =>
    obtain ⟨x, h1⟩ := x
    simp only [R_some]
    cases x <;> simp only [itmOf, R_none, R_some]
    rename_i n
    cases h1[n]? with
    | none => simp only [R_none]
    | some o => cases o <;> simp only [R_none, R_some]
@[simp] theorem Ei_enum : Ei F fu (.enum e) s h Qi ↔ E F fu e s h fun x h1 => R (itrE h1 x) fun J => Qi J h1 := by
  unfold Ei E
  simp only [evI]
  cases ev F fu e s h with
  | none => simp only [R_none]
  | some x =>
    obtain ⟨x, h1⟩ := x
    simp only [R_some]
    cases x <;> simp only [itrE, R_none, R_some]
    rename_i n
    cases h1[n]? with
    | none => simp only [R_none]
    | some o => cases o <;> simp only [R_none, R_some]
@[simp] theorem Ei_rng : Ei F fu (.rng es) s h Qi ↔ Es F fu es s h fun xs h1 => R (rangeOf xs) fun ys => Qi (.st ys) h1 := by
  unfold Ei Es
  simp only [evI]
  cases evs F fu es s h with
  | none => simp only [R_none]
  | some x =>
    obtain ⟨x, h1⟩ := x
    simp only [R_some]
    cases rangeOf x <;> simp only [R_none, R_some]
/-! statements -/
def nxt (F : Ca) (fu : Nat) (r : CSs) (D : Fl → Sg → EH → Prop) : Fl → Sg → EH → Prop
  | .nx, s, h => Ss F fu r s h D
  | .rt v, s, h => D (.rt v) s h
  | .bk, s, h => D .bk s h
  | .ct, s, h => D .ct s h
@[simp] theorem Ss_nil : Ss F fu .nil s h D ↔ D .nx s h := R_some
@[simp] theorem Ss_cons : Ss F fu (.cons st ss) s h D ↔ S F fu st s h (nxt F fu ss D) := by
  unfold Ss S
  simp only [evSs]
  cases evS F fu st s h with
  | none => simp only [R_none]
  | some x =>
    obtain ⟨fl, s1, h1⟩ := x
    cases fl <;> simp only [R_some, nxt] <;> exact Iff.rfl
@[simp] theorem nxt_nx : nxt F fu ss D .nx s h ↔ Ss F fu ss s h D := Iff.rfl
@[simp] theorem nxt_rt {v : PV} : nxt F fu ss D (.rt v) s h ↔ D (.rt v) s h := Iff.rfl
@[simp] theorem S_expr : S F fu (.expr e) s h D ↔ E F fu e s h fun _ h1 => D .nx s h1 := by
  unfold S E
  simp only [evS]
  cases ev F fu e s h <;> simp only [R_none, R_some]
@[simp] theorem S_ret : S F fu (.ret e) s h D ↔ E F fu e s h fun v h1 => D (.rt v) s h1 := by
  unfold S E
  simp only [evS]
  cases ev F fu e s h <;> simp only [R_none, R_some]
@[simp] theorem S_nm {i : Nat} : S F fu (.asg (.nm i) e) s h D ↔ E F fu e s h fun v h1 => D .nx (s.set i (some v)) h1 := by
  unfold S E
  simp only [evS]
  cases ev F fu e s h <;> simp only [R_none, R_some]
@[simp] theorem S_tp {is : List Nat} : S F fu (.asg (.tp is) e) s h D ↔ E F fu e s h fun v h1 => R (unT h1 v) fun xs => R (bindAll is xs s) fun s2 => D .nx s2 h1 := by
  unfold S E
  simp only [evS]
  cases ev F fu e s h with
  | none => simp only [R_none]
  | some x =>
    obtain ⟨x, h1⟩ := x
    simp only [R_some]
    cases unT h1 x with
    | none => simp only [R_none]
    | some xs =>
      simp only [R_some]
      cases bindAll is xs s <;> simp only [R_none, R_some]
@[simp] theorem unT_tup {xs : List PV} : unT h (.tup xs) = some xs := rfl
theorem unT_lst {xs : List PV} {n : Nat} (e : h[n]? = some (.lst xs)) : unT h (.ref n) = some xs := by simp only [unT, e]
@[simp] theorem S_sub : S F fu (.asg (.sub a b) e) s h D ↔ E F fu e s h fun v h1 => E F fu a s h1 fun x h2 => E F fu b s h2 fun y h3 => R (setIx x y v h3) fun h4 => D .nx s h4 := by
  unfold S E
  simp only [evS]
  cases ev F fu e s h with
  | none => simp only [R_none]
  | some x =>
    obtain ⟨x, h1⟩ := x
    simp only [R_some]
    cases ev F fu a s h1 with
    | none => simp only [R_none]
    | some y =>
      obtain ⟨y, h2⟩ := y
      simp only [R_some]
      cases ev F fu b s h2 with
      | none => simp only [R_none]
      | some z =>
        simp only [R_some]
        cases setIx y z.1 x z.2 <;> simp only [R_none, R_some]
@[simp] theorem S_par {is : List Nat} : S F fu (.par is es) s h D ↔ Es F fu es s h fun xs h1 => R (bindAll is xs s) fun s2 => D .nx s2 h1 := by
  unfold S Es
  simp only [evS]
  cases evs F fu es s h with
  | none => simp only [R_none]
  | some x =>
    simp only [R_some]
    cases bindAll is x.1 s <;> simp only [R_none, R_some]
@[simp] theorem S_aug {i : Nat} {o : BOp} : S F fu (.aug i o e) s h D ↔ ∃ x, s[i]? = some (some x) ∧ E F fu e s h fun y h1 => Rr (opA o x y h1) fun z h2 => D .nx (s.set i (some z)) h2 := by
  unfold S E Rr
  simp only [evS]
  cases hs : s[i]? with
  | none => simp [R_none]
  | some o1 =>
    cases o1 with
    | none => simp [R_none]
    | some x =>
      simp only [Option.some.injEq, exists_eq_left']
      cases ev F fu e s h with
      | none => simp only [R_none]
      | some y =>
        simp only [R_some]
        cases opA o x y.1 y.2 <;> simp only [R_none, R_some]
@[simp] theorem S_ifs : S F fu (.ifs c ss bs) s h D ↔ E F fu c s h fun x h1 => T h1 x fun t => if t = true then Ss F fu ss s h1 D else Ss F fu bs s h1 D := by
  unfold S E T Ss
  simp only [evS]
  cases ev F fu c s h with
  | none => simp only [R_none]
  | some x =>
    obtain ⟨x, h1⟩ := x
    simp only [R_some]
    cases truth h1 x with
    | none => simp only [R_none]
    | some t => cases t <;> simp [R_some]
@[simp] theorem S_brk : S F fu .brk s h D ↔ D .bk s h := R_some
@[simp] theorem S_cnt : S F fu .cnt s h D ↔ D .ct s h := R_some
@[simp] theorem S_pss : S F fu .pss s h D ↔ D .nx s h := R_some

theorem E.mono {Q' : PV → EH → Prop} (x : E F fu e s h Q) (f : ∀ v h, Q v h → Q' v h) : E F fu e s h Q' := R.mono x fun r q => f _ _ q
theorem Ss.mono {D' : Fl → Sg → EH → Prop} (x : Ss F fu ss s h D) (f : ∀ fl s h, D fl s h → D' fl s h) : Ss F fu ss s h D' := R.mono x fun r q => f _ _ _ q
theorem S.mono {D' : Fl → Sg → EH → Prop} (x : S F fu st s h D) (f : ∀ fl s h, D fl s h → D' fl s h) : S F fu st s h D' := R.mono x fun r q => f _ _ _ q
theorem Rr.mono {r : Rt} {Q' : PV → EH → Prop} (x : Rr r Q) (f : ∀ v h, Q v h → Q' v h) : Rr r Q' := R.mono x fun r q => f _ _ q

/-! loops -/
/-- after a turn of a loop -/
def turn (I : Sg → EH → Prop) (D : Fl → Sg → EH → Prop) : Fl → Sg → EH → Prop
  | .nx, s, h => I s h
  | .ct, s, h => I s h
  | .bk, s, h => D .nx s h
  | .rt v, s, h => D (.rt v) s h
/-- while, by a number that falls -/
theorem S_whl {I : Nat → Sg → EH → Prop} {n : Nat} (hn : n < fu) (h0 : I n s h)
    (step : ∀ m s h, I m s h → E F fu c s h fun x h1 => T h1 x fun t => if t = true then 0 < m ∧ Ss F fu ss s h1 (turn (I (m - 1)) D) else D .nx s h1) : S F fu (.whl c ss) s h D := by
  unfold S
  simp only [evS]
  generalize hcf : (fun (s : Sg) (h : EH) => match ev F fu c s h with
      | none => none
      | some (x, h1) => match truth h1 x with
        | none => none
        | some t => some (t, h1)) = cf
  have key : ∀ k m s h, m < k → I m s h → R (whileF cf (evSs F fu ss) k s h) fun r => D r.1 r.2.1 r.2.2 := fun k => by
    induction k with
    | zero => intro m s h hm; omega
    | succ k ih =>
      intro m s h hm hI
      obtain ⟨⟨x, h1⟩, e1, ⟨t, e2, q⟩⟩ := step m s h hI
      have ec : cf s h = some (t, h1) := by rw [← hcf]; simp only [e1]; simp only at e2; rw [e2]
      rw [whileF, ec]
      cases t with
      | false => exact ⟨_, rfl, by simpa using q⟩
      | true =>
        simp only [if_true] at q
        obtain ⟨hm2, ⟨⟨fl, s2, h2⟩, e3, q2⟩⟩ := q
        simp only [e3]
        cases fl with
        | nx => exact ih (m - 1) s2 h2 (by omega) q2
        | ct => exact ih (m - 1) s2 h2 (by omega) q2
        | bk => exact ⟨_, rfl, q2⟩
        | rt v => exact ⟨_, rfl, q2⟩
  exact key fu n s h hn h0
/-- for, over items that are fixed -/
theorem for_st {t : Tg} {it : CI} {xs : List PV} {h1 : EH} (I : Nat → Sg → EH → Prop) (hi : evI F fu it s h = some (.st xs, h1)) (h0 : I 0 s h1)
    (step : ∀ i x s h, xs[i]? = some x → I i s h → R (bindT t x s) fun s2 => Ss F fu ss s2 h (turn (I (i + 1)) D)) (fin : ∀ s h, I xs.length s h → D .nx s h) : S F fu (.frr t it ss) s h D := by
  unfold S
  simp only [evS, hi]
  have key : ∀ ys i s h, xs.drop i = ys → i + ys.length = xs.length → I i s h → R (forS (fun x s h => match bindT t x s with
        | none => none
        | some s2 => evSs F fu ss s2 h) ys s h) fun r => D r.1 r.2.1 r.2.2 := fun ys => by
    induction ys with
    | nil =>
      intro i s h e hl hI
      have : i = xs.length := by simpa using hl
      subst this
      exact ⟨_, rfl, fin _ _ hI⟩
    | cons y ys ih =>
      intro i s h e hl hI
      have hy : xs[i]? = some y := by
        have := List.getElem?_drop (xs := xs) (i := i) (j := 0)
        rw [e] at this
        simpa using this.symm
      obtain ⟨s2, e1, ⟨⟨fl, s3, h3⟩, e2, q⟩⟩ := step i y s h hy hI
      rw [forS]
      simp only [e1, e2]
      have e3 : xs.drop (i + 1) = ys := by
        rw [← List.tail_drop, e]; rfl
      cases fl with
      | nx => exact ih (i + 1) s3 h3 e3 (by rw [List.length_cons] at hl; omega) q
      | ct => exact ih (i + 1) s3 h3 e3 (by rw [List.length_cons] at hl; omega) q
      | bk => exact ⟨_, rfl, q⟩
      | rt v => exact ⟨_, rfl, q⟩
  exact key xs 0 s h1 (by simp) (by simp) h0
end
end EV

set_option Elab.async false
set_option linter.all false
set_option maxRecDepth 100000
set_option maxHeartbeats 4000000
/-! EV18: loops over lists that may change, comprehensions; what is kept of the heap; the entry of a def. -/
namespace EV
open PySem PySem.Spec
section
variable {F : Ca} {fu : Nat} {s : Sg} {h : EH} {a b c e : CE} {es r : CEs} {Q : PV → EH → Prop} {Qs : List PV → EH → Prop} {Qi : Itr → EH → Prop} {D : Fl → Sg → EH → Prop} {ss bs : CSs} {st : CS}
/-- for, over a list of the heap -/
theorem for_J {t : Tg} {it : CI} {J : Itr} {h1 : EH} (I : Nat → Sg → EH → Prop) {B : Nat} (hJ : ∀ xs, J ≠ .st xs) (hi : evI F fu it s h = some (J, h1)) (hB : B < fu) (h0 : I 0 s h1)
    (step : ∀ i s h, I i s h → i ≤ B ∧ R (item J i h) fun o => match o with
      | none => D .nx s h
      | some x => R (bindT t x s) fun s2 => Ss F fu ss s2 h (turn (I (i + 1)) D)) : S F fu (.frr t it ss) s h D := by
  unfold S
  simp only [evS, hi]
  have key : ∀ k i s h, B + 1 ≤ i + k → I i s h → R (forD J (fun x s h => match bindT t x s with
        | none => none
        | some s2 => evSs F fu ss s2 h) k i s h) fun r => D r.1 r.2.1 r.2.2 := fun k => by
    induction k with
    | zero =>
      intro i s h hk hI
      have := (step i s h hI).1
      omega
    | succ k ih =>
      intro i s h hk hI
      obtain ⟨_, o, e1, q⟩ := step i s h hI
      rw [forD, e1]
      cases o with
      | none => exact ⟨_, rfl, q⟩
      | some x =>
        obtain ⟨s2, e2, ⟨⟨fl, s3, h3⟩, e3, q⟩⟩ := q
        simp only [e2, e3]
        cases fl with
        | nx => exact ih (i + 1) s3 h3 (by omega) q
        | ct => exact ih (i + 1) s3 h3 (by omega) q
        | bk => exact ⟨_, rfl, q⟩
        | rt v => exact ⟨_, rfl, q⟩
  cases J with
  | st xs => exact absurd rfl (hJ xs)
  | dy n => exact key fu 0 s h1 (by omega) h0
  | dyE n => exact key fu 0 s h1 (by omega) h0
  | zp st x y => exact key fu 0 s h1 (by omega) h0
theorem compF_R {t : Tg} {x : PV} {Qo : Option PV → EH → Prop} (q : R (bindT t x s) fun s2 => E F fu c s2 h fun b h1 => T h1 b fun tt => if tt = true then E F fu e s2 h1 fun y h2 => Qo (some y) h2 else Qo none h1) :
    R (compF F fu e t c s x h) fun r => Qo r.1 r.2 := by
  obtain ⟨s2, e1, ⟨⟨b, h1⟩, e2, ⟨tt, e3, q⟩⟩⟩ := q
  unfold compF
  simp only at e3
  simp only [e1, e2, e3]
  cases tt with
  | false => exact ⟨_, rfl, by simpa using q⟩
  | true =>
    simp only [if_true] at q
    obtain ⟨⟨y, h2⟩, e4, q⟩ := q
    simp only [e4]
    exact ⟨_, rfl, q⟩
theorem Cp_st {t : Tg} {xs : List PV} (I : Nat → List PV → EH → Prop) (h0 : I 0 [] h)
    (step : ∀ i acc x h, xs[i]? = some x → I i acc h → R (bindT t x s) fun s2 => E F fu c s2 h fun b h1 => T h1 b fun tt => if tt = true then E F fu e s2 h1 fun y h2 => acc.length < sizeLine ∧ I (i + 1) (acc ++ [y]) h2 else I (i + 1) acc h1)
    (fin : ∀ acc h, I xs.length acc h → Qs acc h) : Cp F fu e t c s (.st xs) h Qs := by
  unfold Cp
  have key : ∀ ys i acc h, xs.drop i = ys → i + ys.length = xs.length → I i acc h → R (compS (compF F fu e t c s) ys acc h) fun r => Qs r.1 r.2 := fun ys => by
    induction ys with
    | nil =>
      intro i acc h e hl hI
      have : i = xs.length := by simpa using hl
      subst this
      exact ⟨_, rfl, fin _ _ hI⟩
    | cons y ys ih =>
      intro i acc h e hl hI
      have hy : xs[i]? = some y := by
        have := List.getElem?_drop (xs := xs) (i := i) (j := 0)
        rw [e] at this
        simpa using this.symm
      have e3 : xs.drop (i + 1) = ys := by
        rw [← List.tail_drop, e]; rfl
      obtain ⟨⟨o, h1⟩, e1, q⟩ := compF_R (Qo := fun o h1 => match o with
        | some y => acc.length < sizeLine ∧ I (i + 1) (acc ++ [y]) h1
        | none => I (i + 1) acc h1) (step i acc y h hy hI)
      rw [compS, e1]
      cases o with
      | none => exact ih (i + 1) acc h1 e3 (by rw [List.length_cons] at hl; omega) q
      | some z =>
        simp only at q
        simp only [if_pos q.1]
        exact ih (i + 1) _ h1 e3 (by rw [List.length_cons] at hl; omega) q.2
  exact key xs 0 [] h (by simp) (by simp) h0
theorem Cp_J {t : Tg} {J : Itr} (I : Nat → List PV → EH → Prop) {B : Nat} (hJ : ∀ xs, J ≠ .st xs) (hB : B < fu) (h0 : I 0 [] h)
    (step : ∀ i acc h, I i acc h → i ≤ B ∧ R (item J i h) fun o => match o with
      | none => Qs acc h
      | some x => R (bindT t x s) fun s2 => E F fu c s2 h fun b h1 => T h1 b fun tt => if tt = true then E F fu e s2 h1 fun y h2 => acc.length < sizeLine ∧ I (i + 1) (acc ++ [y]) h2 else I (i + 1) acc h1) : Cp F fu e t c s J h Qs := by
  unfold Cp
  have key : ∀ k i acc h, B + 1 ≤ i + k → I i acc h → R (compD J (compF F fu e t c s) k i acc h) fun r => Qs r.1 r.2 := fun k => by
    induction k with
    | zero =>
      intro i acc h hk hI
      have := (step i acc h hI).1
      omega
    | succ k ih =>
      intro i acc h hk hI
      obtain ⟨_, o, e1, q⟩ := step i acc h hI
      rw [compD, e1]
      cases o with
      | none => exact ⟨_, rfl, q⟩
      | some x =>
        obtain ⟨⟨o, h1⟩, e1, q⟩ := compF_R (Qo := fun o h1 => match o with
          | some y => acc.length < sizeLine ∧ I (i + 1) (acc ++ [y]) h1
          | none => I (i + 1) acc h1) q
        simp only [e1]
        cases o with
        | none => exact ih (i + 1) acc h1 (by omega) q
        | some z =>
          simp only at q
          simp only [if_pos q.1]
          exact ih (i + 1) _ h1 (by omega) q.2
  cases J with
  | st xs => exact absurd rfl (hJ xs)
  | dy n => exact key fu 0 [] h (by omega) h0
  | dyE n => exact key fu 0 [] h (by omega) h0
  | zp st x y => exact key fu 0 [] h (by omega) h0
theorem compFd_R {ke ve : CE} {t : Tg} {x : PV} {Qo : Option (PV × PV) → EH → Prop} (q : R (bindT t x s) fun s2 => E F fu c s2 h fun b h1 => T h1 b fun tt => if tt = true then E F fu ke s2 h1 fun y h2 => E F fu ve s2 h2 fun z h3 => Qo (some (y, z)) h3 else Qo none h1) :
    R (compFd F fu ke ve t c s x h) fun r => Qo r.1 r.2 := by
  obtain ⟨s2, e1, ⟨⟨b, h1⟩, e2, ⟨tt, e3, q⟩⟩⟩ := q
  unfold compFd
  simp only at e3
  simp only [e1, e2, e3]
  cases tt with
  | false => exact ⟨_, rfl, by simpa using q⟩
  | true =>
    simp only [if_true] at q
    obtain ⟨⟨y, h2⟩, e4, ⟨⟨z, h3⟩, e5, q⟩⟩ := q
    simp only at e5
    simp only [e4, e5]
    exact ⟨_, rfl, q⟩
/-- a dict comprehension -/
theorem Cpd_J {ke ve : CE} {t : Tg} {J : Itr} {Qs : List (PV × PV) → EH → Prop} (I : Nat → List (PV × PV) → EH → Prop) {B : Nat} (hB : B < itFuel fu J) (h0 : I 0 [] h)
    (step : ∀ i acc h, I i acc h → i ≤ B ∧ R (item J i h) fun o => match o with
      | none => Qs acc h
      | some x => R (bindT t x s) fun s2 => E F fu c s2 h fun b h1 => T h1 b fun tt => if tt = true then E F fu ke s2 h1 fun y h2 => E F fu ve s2 h2 fun z h3 => (keyOf y).isSome = true ∧ acc.length < sizeLine ∧ I (i + 1) (dput acc y z) h3 else I (i + 1) acc h1) : Cpd F fu ke ve t c s J h Qs := by
  unfold Cpd
  have key : ∀ k i acc h, B + 1 ≤ i + k → I i acc h → R (compK J (compFd F fu ke ve t c s) k i acc h) fun r => Qs r.1 r.2 := fun k => by
    induction k with
    | zero =>
      intro i acc h hk hI
      have := (step i acc h hI).1
      omega
    | succ k ih =>
      intro i acc h hk hI
      obtain ⟨_, o, e1, q⟩ := step i acc h hI
      rw [compK, e1]
      cases o with
      | none => exact ⟨_, rfl, q⟩
      | some x =>
        obtain ⟨⟨o, h1⟩, e1, q⟩ := compFd_R (Qo := fun o h1 => match o with
          | some (y, z) => (keyOf y).isSome = true ∧ acc.length < sizeLine ∧ I (i + 1) (dput acc y z) h1
          | none => I (i + 1) acc h1) q
        simp only [e1]
        cases o with
        | none => exact ih (i + 1) acc h1 (by omega) q
        | some z =>
          obtain ⟨y, z⟩ := z
          simp only at q
          obtain ⟨kk, hkk⟩ := Option.isSome_iff_exists.mp q.1
          simp only [hkk, if_pos q.2.1]
          exact ih (i + 1) _ h1 (by omega) q.2.2
  exact key _ 0 [] h (by omega) h0
end
/-! the entry of a def -/
def retQ (Q : PV → EH → Prop) : Fl → Sg → EH → Prop
  | .nx, _, h => Q .non h
  | .rt v, _, h => Q v h
  | .bk, _, _ => False
  | .ct, _, _ => False
theorem run_R {P : List Fn} {fu d f : Nat} {fn : Fn} {xs : List PV} {h : EH} {Q : PV → EH → Prop} (hf : P[f]? = some fn) (hl : xs.length = fn.np)
    (q : Ss (run P fu d) fu fn.body (xs.map some ++ List.replicate (fn.nl - fn.np) none) h (retQ Q)) : Rr (run P fu (d + 1) f xs h) Q := by
  obtain ⟨⟨fl, s2, h2⟩, e, q⟩ := q
  unfold Rr
  simp only [run, hf, if_pos hl, e]
  cases fl with
  | nx => exact ⟨_, rfl, q⟩
  | rt v => exact ⟨_, rfl, q⟩
  | bk => exact q.elim
  | ct => exact q.elim
/-! what is kept: below n all but the places M -/
def Kp (M : List Nat) (n : Nat) (h h' : EH) : Prop := n ≤ h.length ∧ h.length ≤ h'.length ∧ ∀ m < n, m ∉ M → h'[m]? = h[m]?
section
variable {M : List Nat} {n m : Nat} {h h1 h2 : EH}
theorem Kp.refl (hn : n ≤ h.length) : Kp M n h h := ⟨hn, Nat.le_refl _, fun _ _ _ => rfl⟩
theorem Kp.trans (x : Kp M n h h1) (y : Kp M n h1 h2) : Kp M n h h2 := ⟨x.1, Nat.le_trans x.2.1 y.2.1, fun m a b => (y.2.2 m a b).trans (x.2.2 m a b)⟩
theorem Kp.less (x : Kp M n h h1) (hm : m ≤ n) : Kp M m h h1 := ⟨Nat.le_trans hm x.1, x.2.1, fun k a b => x.2.2 k (Nat.lt_of_lt_of_le a hm) b⟩
theorem Kp.more {M' : List Nat} (x : Kp M n h h1) (s : ∀ k ∈ M, k < n → k ∈ M') : Kp M' n h h1 := ⟨x.1, x.2.1, fun k a b => x.2.2 k a fun z => b (s k z a)⟩
theorem Kp.get {o : EO} (x : Kp M n h h1) (e : h[m]? = some o) (hm : m < n) (hM : m ∉ M) : h1[m]? = some o := (x.2.2 m hm hM).trans e
theorem Kp.new {o : EO} (hn : n ≤ h.length) : Kp M n h (h ++ [o]) := ⟨hn, by simp, fun k a b => by rw [List.getElem?_append_left (by omega)]⟩
theorem Kp.set {o : EO} (hn : n ≤ h.length) (hk : m ∈ M ∨ n ≤ m) : Kp M n h (h.set m o) := ⟨hn, by simp, fun k a b => by
  refine List.getElem?_set_ne fun z => ?_
  subst z
  rcases hk with q | q
  · exact b q
  · omega⟩
theorem get_lt {o : EO} (e : h[m]? = some o) : m < h.length := by
  rcases Nat.lt_or_ge m h.length with q | q
  · exact q
  · rw [List.getElem?_eq_none q] at e; cases e
theorem get_new {o : EO} : (h ++ [o])[h.length]? = some o := by simp
end
end EV

set_option Elab.async false
set_option linter.all false
set_option maxRecDepth 100000
set_option maxHeartbeats 4000000
/-! EV19: the operators at values whose kind is known. -/
namespace EV
open PySem PySem.Spec
@[simp] theorem sz : sizeLine = 16777216 := by decide
section
variable {h : EH} {Q : PV → EH → Prop} {Qb : Bool → Prop} {i j : Int} {x y : Str} {xs ys : List PV} {n : Nat}
@[simp] theorem T_bl {b : Bool} : T h (.bl b) Qb ↔ Qb b := R_some
@[simp] theorem T_non : T h .non Qb ↔ Qb false := R_some
@[simp] theorem T_int : T h (.int i) Qb ↔ Qb (i != 0) := R_some
@[simp] theorem T_tup : T h (.tup xs) Qb ↔ Qb (!xs.isEmpty) := R_some
@[simp] theorem o_add : Rr (opB .add (.int i) (.int j) h) Q ↔ Q (.int (i + j)) h := R_some
@[simp] theorem o_sub : Rr (opB .sub (.int i) (.int j) h) Q ↔ Q (.int (i - j)) h := R_some
@[simp] theorem o_addT : Rr (opB .add (.tup xs) (.tup ys) h) Q ↔ (xs ++ ys).length ≤ sizeLine ∧ Q (.tup (xs ++ ys)) h := Rr_newT
@[simp] theorem o_mod : Rr (opB .mod (.int i) (.int j) h) Q ↔ 0 < j ∧ Q (.int (i % j)) h := R_if.trans (and_congr_right fun _ => R_some)
theorem o_mul (hj : -(2 ^ 64) < j ∧ j < 2 ^ 64) : Rr (opB .mul (.int i) (.int j) h) Q ↔ Q (.int (i * j)) h := by
  simp only [opB, if_pos (Or.inr hj : (-(2 ^ 64) < i ∧ i < 2 ^ 64) ∨ (-(2 ^ 64) < j ∧ j < 2 ^ 64)), Rr_ok]
theorem o_fdiv (h0 : 0 < j) (hj : j < 2 ^ 64) : Rr (opB .fdiv (.int i) (.int j) h) Q ↔ Q (.int (i / j)) h := by
  have : j.natAbs.log2 < 9000 := by
    have a : j.natAbs < 2 ^ 64 := by omega
    have b : j.natAbs ≠ 0 := by omega
    have := (Nat.log2_lt b).mpr a
    omega
  simp only [opB, if_pos (And.intro h0 this), Rr_ok]
@[simp] theorem c_lt : R (opC .lt (.int i) (.int j) h) Qb ↔ Qb (decide (i < j)) := R_some
@[simp] theorem c_le : R (opC .le (.int i) (.int j) h) Qb ↔ Qb (decide (i ≤ j)) := R_some
@[simp] theorem c_gt : R (opC .gt (.int i) (.int j) h) Qb ↔ Qb (decide (j < i)) := R_some
@[simp] theorem c_ge : R (opC .ge (.int i) (.int j) h) Qb ↔ Qb (decide (j ≤ i)) := R_some
theorem eqD_int : eqD h (.int i) (.int j) = some (decide (i = j)) := by
  unfold eqD
  simp [toD, DF, SeqAt.shaped, PyData.canLay0, PyData.depth, PyData.eqv]
  rfl
@[simp] theorem c_eqI : R (opC .eq (.int i) (.int j) h) Qb ↔ Qb (decide (i = j)) := by
  simp only [opC, eqD_int, Option.map_some, R_some]
@[simp] theorem c_neI : R (opC .ne (.int i) (.int j) h) Qb ↔ Qb (!decide (i = j)) := by
  simp only [opC, eqD_int, Option.map_some, R_some]
@[simp] theorem b_int : Rr (opBi .int [.int i] h) Q ↔ Q (.int i) h := R_some
@[simp] theorem b_intB {b : Bool} : Rr (opBi .int [.bl b] h) Q ↔ Q (.int (if b then 1 else 0)) h := R_some
@[simp] theorem b_abs : Rr (opBi .abs [.int i] h) Q ↔ Q (.int (if i < 0 then -i else i)) h := R_some
@[simp] theorem b_max : Rr (opBi .max [.int i, .int j] h) Q ↔ Q (.int (if j > i then j else i)) h := R_some
@[simp] theorem b_min : Rr (opBi .min [.int i, .int j] h) Q ↔ Q (.int (if j < i then j else i)) h := R_some
@[simp] theorem b_lenT : Rr (opBi .len [.tup xs] h) Q ↔ Q (.int xs.length) h := R_some
@[simp] theorem b_lenF : Rr (opBi .len [.fl xs] h) Q ↔ Q (.int xs.length) h := R_some
theorem b_lenR (e : h[n]? = some (.lst xs)) : Rr (opBi .len [.ref n] h) Q ↔ Q (.int xs.length) h := by
  simp only [opBi, isLT, e, Rr_ok]
theorem b_tupR (e : h[n]? = some (.lst xs)) : Rr (opBi .tuple [.ref n] h) Q ↔ Q (.tup xs) h := by
  simp only [opBi, isL, e, Rr_ok]
@[simp] theorem x_tup : opIx (.tup xs) (.int i) h = seqAt xs i := rfl
@[simp] theorem x_fl : opIx (.fl xs) (.int i) h = seqAt xs i := rfl
theorem x_lst (e : h[n]? = some (.lst xs)) : opIx (.ref n) (.int i) h = seqAt xs i := by
  simp only [opIx, e]
theorem x_dct {kvs : List (PV × PV)} (e : h[n]? = some (.dict kvs)) : opIx (.ref n) (.str x) h = dget kvs (.str x) := by
  simp only [opIx, e, keyOf]
theorem x_dctI {kvs : List (PV × PV)} (e : h[n]? = some (.dict kvs)) : opIx (.ref n) (.int i) h = dget kvs (.int i) := by
  simp only [opIx, e, keyOf]
theorem x_setD {kvs : List (PV × PV)} {v : PV} (e : h[n]? = some (.dict kvs)) (hl : kvs.length < sizeLine) : setIx (.ref n) (.str x) v h = some (h.set n (.dict (dput kvs (.str x) v))) := by
  simp only [setIx, e, keyOf, if_pos hl]
theorem seqAt_nat {k : Nat} : seqAt xs (k : Int) = xs[k]? := by
  unfold seqAt
  rw [if_neg (by omega)]
  rfl
theorem seqAt_of {i : Int} (h0 : 0 ≤ i) : seqAt xs i = xs[i.toNat]? := by
  unfold seqAt
  rw [if_neg (by omega)]
theorem m_append {v : PV} (e : h[n]? = some (.lst xs)) (hl : xs.length < sizeLine) : Rr (opMe .append (.ref n) [v] h) Q ↔ Q .non (h.set n (.lst (xs ++ [v]))) := by
  simp only [opMe, e, if_pos hl, Rr_some]
theorem k_lst {m : Me} (e : h[n]? = some (.lst xs)) (hm : m = .append ∨ m = .pop ∨ m = .popAt ∨ m = .extend ∨ m = .index) : meK h (.ref n) m = true := by
  rcases hm with rfl | rfl | rfl | rfl | rfl <;> simp [meK, isL, e]
end
end EV

set_option Elab.async false
set_option linter.all false
set_option maxRecDepth 100000
set_option maxHeartbeats 4000000
/-! EV20: the draws that all laws share: _law_source, _law_pick, _law_of. -/
namespace EV
open PySem PySem.Spec
def csSource : CSs := (.cons (.asg (.nm 1) (.lit (.int 11)))
 (.cons (.frr (.nm 2) (.val (.var 0))
 (.cons (.asg (.nm 1) (.bin .mod (.bi .int (.cons (.bin .add (.bin .add (.bin .mul (.var 1) (.lit (.int 69069))) (.bin .mul (.var 2) (.lit (.int 31)))) (.lit (.int 5))) .nil)) (.lit (.int 2147483629))))
 .nil))
 (.cons (.ret (.dict (.cons (.lit (.str "cells")) (.cons (.rev (.comp (.bi .abs (.cons (.var 2) .nil)) (.nm 2) (.val (.var 0)) (.lit (.bl true)) [2])) (.cons (.lit (.str "left")) (.cons (.lit (.int 1)) (.cons (.lit (.str "mixed")) (.cons (.var 1) (.cons (.lit (.str "turn")) (.cons (.lit (.int 0)) .nil))))))))))
 .nil)))
def cPickC : CE := .and (.cmp .gt (.var 1) (.lit (.int 1))) (.and (.cmp .lt (.idx (.var 0) (.lit (.str "left"))) (.lit (.int 2))) (.cmp .gt (.bi .len (.cons (.idx (.var 0) (.lit (.str "cells"))) .nil)) (.lit (.int 0))))
def cPickB : CSs := (.cons (.asg (.sub (.var 0) (.lit (.str "left"))) (.meth .pop (.idx (.var 0) (.lit (.str "cells"))) .nil)) .nil)
def cPickT : CSs := (.cons (.asg (.nm 2) (.idx (.var 0) (.lit (.str "left"))))
 (.cons (.ifs (.or (.cmp .lt (.var 1) (.lit (.int 2))) (.cmp .gt (.var 2) (.lit (.int 1))))
 (.cons (.asg (.sub (.var 0) (.lit (.str "left"))) (.bin .fdiv (.var 2) (.bi .max (.cons (.lit (.int 1)) (.cons (.var 1) .nil)))))
 (.cons (.ret (.bin .mod (.bi .int (.cons (.var 2) .nil)) (.bi .max (.cons (.lit (.int 1)) (.cons (.var 1) .nil)))))
 .nil))
 .nil)
 (.cons (.asg (.sub (.var 0) (.lit (.str "turn"))) (.bin .add (.idx (.var 0) (.lit (.str "turn"))) (.lit (.int 1))))
 (.cons (.asg (.nm 3) (.bin .mod (.bi .int (.cons (.bin .add (.idx (.var 0) (.lit (.str "mixed"))) (.bin .mul (.idx (.var 0) (.lit (.str "turn"))) (.lit (.int 104729)))) .nil)) (.lit (.int 998244353))))
 (.cons (.asg (.nm 3) (.bin .mod (.bi .int (.cons (.bin .add (.bin .mul (.var 3) (.var 3)) (.bin .mul (.idx (.var 0) (.lit (.str "turn"))) (.lit (.int 17)))) .nil)) (.lit (.int 2147483647))))
 (.cons (.asg (.sub (.var 0) (.lit (.str "mixed"))) (.var 3))
 (.cons (.ret (.bin .mod (.bi .int (.cons (.bin .fdiv (.var 3) (.lit (.int 16))) .nil)) (.var 1)))
 .nil)))))))
def csPick : CSs := .cons (.whl cPickC cPickB) cPickT
def csOf (ip : Nat) : CSs := (.cons (.ret (.idx (.var 1) (.call ip (.cons (.var 0) (.cons (.bi .len (.cons (.var 1) .nil)) .nil))))) .nil)

/-- the source's dict -/
def sD (c : Nat) (l m t : Int) : EO := .dict [(.str "cells", .ref c), (.str "left", .int l), (.str "mixed", .int m), (.str "turn", .int t)]
structure SrcIs (n c : Nat) (h : EH) (xs : List Int) (l m t : Int) : Prop where
  ne : n ≠ c
  d : h[n]? = some (sD c l m t)
  x : h[c]? = some (.lst (xs.map .int))
  x0 : ∀ i ∈ xs, 0 ≤ i
  xl : xs.length ≤ 63
  l0 : 0 ≤ l
def Src (n c : Nat) (h : EH) : Prop := ∃ xs l m t, SrcIs n c h xs l m t
section
variable {n c : Nat} {h h' : EH} {xs : List Int} {l m t : Int}
theorem SrcIs.keep (s : SrcIs n c h xs l m t) (e1 : h'[n]? = h[n]?) (e2 : h'[c]? = h[c]?) : SrcIs n c h' xs l m t := ⟨s.ne, e1.trans s.d, e2.trans s.x, s.x0, s.xl, s.l0⟩
theorem Src.kp {M : List Nat} {k : Nat} (s : Src n c h) (x : Kp M k h h') (hn : n < k) (hc : c < k) (hM : n ∉ M) (hM2 : c ∉ M) : Src n c h' := by
  obtain ⟨xs, l, m, t, s⟩ := s
  exact ⟨xs, l, m, t, s.keep (x.2.2 n hn hM) (x.2.2 c hc hM2)⟩
theorem Src.lt (s : Src n c h) : n < h.length ∧ c < h.length := by
  obtain ⟨xs, l, m, t, s⟩ := s
  exact ⟨get_lt s.d, get_lt s.x⟩
theorem SrcIs.set (s : SrcIs n c h xs l m t) (l' m' t' : Int) (h0 : 0 ≤ l') : SrcIs n c (h.set n (sD c l' m' t')) xs l' m' t' :=
  ⟨s.ne, by rw [List.getElem?_set_self (get_lt s.d)], by rw [List.getElem?_set_ne s.ne]; exact s.x, s.x0, s.xl, h0⟩
theorem dg_left {k : Nat} {l m t : Int} : dget [(.str "cells", .ref k), (.str "left", .int l), (.str "mixed", .int m), (.str "turn", .int t)] (.str "left") = some (.int l) := by
  simp only [dget]
  rw [if_neg (by decide)]; rfl
theorem dg_cells {k : Nat} {l m t : Int} : dget [(.str "cells", .ref k), (.str "left", .int l), (.str "mixed", .int m), (.str "turn", .int t)] (.str "cells") = some (.ref k) := rfl
theorem dg_mixed {k : Nat} {l m t : Int} : dget [(.str "cells", .ref k), (.str "left", .int l), (.str "mixed", .int m), (.str "turn", .int t)] (.str "mixed") = some (.int m) := by
  simp only [dget]
  rw [if_neg (by decide), if_neg (by decide)]; rfl
theorem dg_turn {k : Nat} {l m t : Int} : dget [(.str "cells", .ref k), (.str "left", .int l), (.str "mixed", .int m), (.str "turn", .int t)] (.str "turn") = some (.int t) := by
  simp only [dget]
  rw [if_neg (by decide), if_neg (by decide), if_neg (by decide)]; rfl
theorem SrcIs.getL (s : SrcIs n c h xs l m t) : opIx (.ref n) (.str "left") h = some (.int l) := by rw [x_dct s.d, dg_left]
theorem SrcIs.getC (s : SrcIs n c h xs l m t) : opIx (.ref n) (.str "cells") h = some (.ref c) := by rw [x_dct s.d, dg_cells]
theorem SrcIs.getM (s : SrcIs n c h xs l m t) : opIx (.ref n) (.str "mixed") h = some (.int m) := by rw [x_dct s.d, dg_mixed]
theorem SrcIs.getT (s : SrcIs n c h xs l m t) : opIx (.ref n) (.str "turn") h = some (.int t) := by rw [x_dct s.d, dg_turn]
theorem SrcIs.putL (s : SrcIs n c h xs l m t) {v : Int} : setIx (.ref n) (.str "left") (.int v) h = some (h.set n (sD c v m t)) := by
  rw [x_setD s.d (show 4 < sizeLine by decide)]
  simp only [dput, dg_left, Option.isSome_some, if_true, List.map_cons, List.map_nil]
  rfl
theorem SrcIs.putM (s : SrcIs n c h xs l m t) {v : Int} : setIx (.ref n) (.str "mixed") (.int v) h = some (h.set n (sD c l v t)) := by
  rw [x_setD s.d (show 4 < sizeLine by decide)]
  simp only [dput, dg_mixed, Option.isSome_some, if_true, List.map_cons, List.map_nil]
  rfl
theorem SrcIs.putT (s : SrcIs n c h xs l m t) {v : Int} : setIx (.ref n) (.str "turn") (.int v) h = some (h.set n (sD c l m v)) := by
  rw [x_setD s.d (show 4 < sizeLine by decide)]
  simp only [dput, dg_turn, Option.isSome_some, if_true, List.map_cons, List.map_nil]
  rfl
end
section
variable {P : List Fn} {fu d ip : Nat} {n c : Nat} {h : EH} {many : Int} {Q : PV → EH → Prop}
/-- a draw -/
theorem pick_ok (hP : P[ip]? = some ⟨2, 4, csPick⟩) (hs : Src n c h) (hm : 1 ≤ many) (hm2 : many < 2 ^ 62) (hfu : 100 < fu)
    (q : ∀ v h', 0 ≤ v → v < many → Src n c h' → Kp [n, c] h.length h h' → Q (.int v) h') : Rr (run P fu (d + 1) ip [.ref n, .int many] h) Q := by
  refine run_R hP rfl ?_
  obtain ⟨xs, l, m, t, s⟩ := hs
  have hk0 : Kp [n, c] h.length h h := Kp.refl (Nat.le_refl _)
  simp only [List.map_cons, List.map_nil, List.replicate, csPick, Ss_cons, List.cons_append, List.nil_append]
  refine S_whl (I := fun k s' h' => s' = [some (.ref n), some (.int many), none, none] ∧ Kp [n, c] h.length h h' ∧ ∃ xs l, SrcIs n c h' xs l m t ∧ xs.length = k) (n := xs.length) (by have := s.xl; omega) ⟨rfl, hk0, xs, l, s, rfl⟩ ?_
  rintro k _ h1 ⟨rfl, hk, xs1, l1, s1, rfl⟩
  have tail : Ss (run P fu d) fu cPickT [some (.ref n), some (.int many), none, none] h1 (retQ Q) := by
    have mx : (if 1 < many then many else 1) = many := by split <;> omega
    have sT := s1.set l1 m (t + 1) s1.l0
    have hn1 := (Src.lt ⟨_, _, _, _, s1⟩).1
    have kT : Kp [n, c] h.length h (h1.set n (sD c l1 m (t + 1))) := hk.trans (Kp.set hk.2.1 (.inl List.mem_cons_self))
    have left : Rr (opB .fdiv (.int l1) (.int many) h1) fun v h1 => R (setIx (.ref n) (.str "left") v h1) fun h4 => 0 < many ∧ Q (.int (l1 % many)) h4 := by
      have s0 := s1.l0
      rw [o_fdiv (by omega) (by omega), s1.putL]
      have sL := s1.set (l1 / many) m t (Int.ediv_nonneg s0 (by omega))
      refine R_some.mpr ⟨by omega, q _ _ (Int.emod_nonneg _ (by omega)) (Int.emod_lt_of_pos _ (by omega)) ⟨_, _, _, _, sL⟩ (hk.trans (Kp.set hk.2.1 (.inl List.mem_cons_self)))⟩
    have right : Q (.int (((((m + (t + 1) * 104729) % 998244353 * ((m + (t + 1) * 104729) % 998244353)) + (t + 1) * 17) % 2147483647 / 16) % many)) ((h1.set n (sD c l1 m (t + 1))).set n (sD c l1 (((m + (t + 1) * 104729) % 998244353 * ((m + (t + 1) * 104729) % 998244353) + (t + 1) * 17) % 2147483647) (t + 1))) :=
      q _ _ (Int.emod_nonneg _ (by omega)) (Int.emod_lt_of_pos _ (by omega)) ⟨_, _, _, _, sT.set _ _ _ s1.l0⟩ (kT.trans (Kp.set kT.2.1 (.inl List.mem_cons_self)))
    rw [List.set_set] at right
    have b1 : -(2 ^ 64) < (m + (t + 1) * 104729) % 998244353 ∧ (m + (t + 1) * 104729) % 998244353 < 2 ^ 64 := by omega
    simp [cPickT, s1.getL, s1.getT, s1.putT, sT.getM, sT.getT, sT.putM, mx, o_mul b1, o_mul (show -(2 ^ 64) < (104729 : Int) ∧ (104729 : Int) < 2 ^ 64 by decide), o_mul (show -(2 ^ 64) < (17 : Int) ∧ (17 : Int) < 2 ^ 64 by decide), o_fdiv (show (0 : Int) < 16 by decide) (show (16 : Int) < 2 ^ 64 by decide)]
    have left' : Rr (opB .fdiv (.int l1) (.int many) h1) fun v h1 => R (setIx (.ref n) (.str "left") v h1) fun h4 => 0 < many ∧ retQ Q (.rt (.int (l1 % many))) [some (.ref n), some (.int many), some (.int l1), none] h4 := left
    split
    · exact left'
    · split
      · exact left'
      · exact ⟨by omega, right⟩
  have pop : 0 < xs1.length → l1 < 2 → 0 < xs1.length ∧ meK h1 (.ref c) .pop = true ∧ Rr (opMe .pop (.ref c) [] h1) fun v h1 => R (setIx (.ref n) (.str "left") v h1) fun h4 =>
      [some (PV.ref n), some (.int many), none, none] = [some (PV.ref n), some (.int many), none, none] ∧ Kp [n, c] h.length h h4 ∧ ∃ xs, (∃ x, SrcIs n c h4 xs x m t) ∧ xs.length = xs1.length - 1 := fun hl _ => by
    refine ⟨hl, k_lst s1.x (.inr (.inl rfl)), ?_⟩
    have e : (xs1.map PV.int)[(xs1.map PV.int).length - 1]? = some (.int (xs1[xs1.length - 1]'(by omega))) := by
      rw [List.length_map, List.getElem?_map, List.getElem?_eq_getElem (by omega)]; rfl
    simp only [opMe, s1.x, e, Rr_some]
    have c2 : c < h1.length := get_lt s1.x
    have s2 : SrcIs n c (h1.set c (.lst (xs1.map PV.int).dropLast)) xs1.dropLast l1 m t :=
      ⟨s1.ne, by rw [List.getElem?_set_ne (Ne.symm s1.ne)]; exact s1.d, by rw [List.getElem?_set_self c2, List.map_dropLast], fun i hi => s1.x0 i (List.dropLast_subset _ hi), by rw [List.length_dropLast]; have := s1.xl; omega, s1.l0⟩
    have k2 : Kp [n, c] h.length h (h1.set c (.lst (xs1.map PV.int).dropLast)) := hk.trans (Kp.set hk.2.1 (.inl (by simp)))
    rw [s2.putL]
    refine R_some.mpr ⟨trivial, k2.trans (Kp.set k2.2.1 (.inl List.mem_cons_self)), _, ⟨_, s2.set _ _ _ (s1.x0 _ (List.getElem_mem _))⟩, by rw [List.length_dropLast]⟩
  simp [cPickC, cPickB, s1.getL, s1.getC, b_lenR s1.x]
  by_cases c1 : 1 < many
  · rw [if_pos c1]
    by_cases c2 : l1 < 2
    · rw [if_pos c2]
      by_cases c3 : 0 < xs1.length
      · rw [if_pos c3]
        exact pop c3 c2
      · rw [if_neg c3]
        exact tail
    · rw [if_neg c2, if_neg c2]
      exact tail
  · rw [if_neg c1, if_neg c1]
    exact tail
/-- one of some: xs, the items of a list or of a tuple -/
theorem of_ok {io : Nat} {v : PV} {xs : List PV} (hP : P[ip]? = some ⟨2, 4, csPick⟩) (hO : P[io]? = some ⟨2, 2, csOf ip⟩) (hs : Src n c h) (hl : ∀ Q', Rr (opBi .len [v] h) Q' ↔ Q' (.int xs.length) h) (hx : 0 < xs.length) (hx2 : xs.length < 2 ^ 62) (hfu : 100 < fu)
    (ix : ∀ h' k, k < xs.length → Src n c h' → Kp [n, c] h.length h h' → R (opIx v (.int (k : Nat)) h') fun z => Q z h') : Rr (run P fu (d + 2) io [.ref n, v] h) Q := by
  refine run_R hO rfl ?_
  simp [csOf, hl]
  refine pick_ok hP hs (by omega) (by omega) hfu fun v h' v0 v1 s k => ?_
  have e : v = ((v.toNat : Nat) : Int) := by omega
  rw [e]
  exact ix h' v.toNat (by omega) s k
/-- the source -/
theorem source_ok {is : Nat} {ns : List Int} (hP : P[is]? = some ⟨1, 3, csSource⟩) (hn : ns.length ≤ 63) (q : ∀ n c h', Src n c h' → Q (.ref n) h') : Rr (run P fu (d + 1) is [.fl (ns.map .int)] []) Q := by
  refine run_R hP rfl ?_
  simp [csSource]
  refine for_st (xs := ns.map .int) (h1 := []) (fun i s h => h = [] ∧ ∃ (m : Int) (o : Option PV), 0 ≤ m ∧ m < 2147483629 ∧ s = [some (.fl (ns.map .int)), some (.int m), o]) rfl ⟨rfl, 11, none, by omega, by omega, rfl⟩ ?_ ?_
  · rintro i x s h hx ⟨rfl, m, o, m0, m1, rfl⟩
    rw [List.getElem?_map] at hx
    obtain ⟨k, _, rfl⟩ := Option.map_eq_some_iff.mp hx
    simp [bindT, o_mul (show -(2 ^ 64) < (69069 : Int) ∧ (69069 : Int) < 2 ^ 64 by decide), o_mul (show -(2 ^ 64) < (31 : Int) ∧ (31 : Int) < 2 ^ 64 by decide), turn]
    omega
  · rintro s h ⟨rfl, m, o, m0, m1, rfl⟩
    simp [wipeE, itrOf]
    refine Cp_st (fun i acc h => h = [] ∧ i ≤ ns.length ∧ acc = (ns.take i).map fun k => PV.int (if k < 0 then -k else k)) ⟨rfl, by omega, by simp⟩ ?_ ?_
    · rintro i acc x h hx ⟨rfl, hi, rfl⟩
      rw [List.getElem?_map] at hx
      obtain ⟨k, hk, rfl⟩ := Option.map_eq_some_iff.mp hx
      have hi2 := List.getElem?_eq_some_iff.mp hk
      obtain ⟨hi2, hk2⟩ := hi2
      simp [bindT]
      refine ⟨?_, by omega, ?_⟩
      · have := Nat.min_le_right i ns.length
        have z : sizeLine = 16777216 := by decide
        omega
      · simp [List.take_add_one, hk]
    · rintro acc h ⟨rfl, _, rfl⟩
      simp only [List.length_map, List.take_length, List.nil_append, List.length_nil]
      simp only [opRev, isL, List.getElem?_cons_zero, Rr_new]
      simp [pairUp, keyOf]
      refine q 2 1 _ ?_
      refine ⟨(ns.map fun k => if k < 0 then -k else k).reverse, 1, m, 0, by decide, ?_, ?_, ?_, by simpa using hn, by decide⟩
      · rfl
      · simp [List.map_reverse, Function.comp_def]
      · intro i hi
        simp at hi
        obtain ⟨k, _, rfl⟩ := hi
        split <;> omega
end
end EV

set_option Elab.async false
set_option linter.all false
set_option maxRecDepth 100000
set_option maxHeartbeats 4000000
/-! EV21: data: what may be shown and compared. -/
namespace EV
open PySem PySem.Spec PyProof.Rows

/-- a text that may stand in data -/
def gS (x : Str) : Bool := PyData.strOk x && (PyData.leavesShort 13 (.str x)) && PyData.strOk (PyData.shown (.str x))
mutual
def gd : PyData → Bool
  | .none | .bool _ => true
  | .int i => decide (i.natAbs < 10 ^ 12) || (decide (0 ≤ i) && decide (i.natAbs < 10 ^ 13))
  | .str x => gS x
  | .list xs | .tuple xs => gdAll xs
  | .dict _ => false
def gdAll : List PyData → Bool
  | [] => true
  | x :: xs => gd x && gdAll xs
end
theorem gdAll_iff : ∀ {xs : List PyData}, gdAll xs = true ↔ ∀ x ∈ xs, gd x = true
  | [] => by simp [gdAll]
  | x :: xs => by simp [gdAll, gdAll_iff]
mutual
theorem gd_short : ∀ d : PyData, gd d = true → d.leavesShort 13 = true
  | .none, _ => rfl
  | .bool _, _ => rfl
  | .int i, h => by
    simp only [gd, Bool.or_eq_true, Bool.and_eq_true, decide_eq_true_eq] at h
    simp only [PyData.leavesShort, decide_eq_true_eq]
    rcases h with h | ⟨h0, h⟩
    · exact PyData.shown_int_le h
    · obtain ⟨n, rfl⟩ : ∃ n : Nat, i = n := ⟨i.toNat, by omega⟩
      show (Str.ofString (toString (n : Int))).length ≤ 13
      rw [PySem.ofString_length]
      exact (Nat.length_repr_le_iff (by omega)).mpr (by simpa using h)
  | .str x, h => by
    simp only [gd, gS, Bool.and_eq_true] at h
    exact h.1.2
  | .list xs, h => by
    simp only [gd] at h
    simp only [PyData.leavesShort]
    exact gdAll_short xs h
  | .tuple xs, h => by
    simp only [gd] at h
    simp only [PyData.leavesShort]
    exact gdAll_short xs h
theorem gdAll_short : ∀ xs : List PyData, gdAll xs = true → PyData.leavesShortAll 13 xs = true
  | [], _ => rfl
  | x :: xs, h => by
    simp only [gdAll, Bool.and_eq_true] at h
    simp only [PyData.leavesShortAll, Bool.and_eq_true]
    exact ⟨gd_short x h.1, gdAll_short xs h.2⟩
end
mutual
theorem gd_showable : ∀ d : PyData, gd d = true → d.showable = true
  | .none, _ => rfl
  | .bool _, _ => rfl
  | .int i, h => by
    simp only [gd, Bool.or_eq_true, Bool.and_eq_true, decide_eq_true_eq] at h
    simp only [PyData.showable, decide_eq_true_eq]
    by_cases z : i.natAbs = 0
    · rw [z]; decide
    · have := (Nat.log2_lt z (k := 44)).mpr (by
        have : (10 : Nat) ^ 13 < 2 ^ 44 := by decide
        omega)
      omega
  | .str x, h => rfl
  | .list xs, h => by
    simp only [gd] at h
    simp only [PyData.showable]
    exact gdAll_showable xs h
  | .tuple xs, h => by
    simp only [gd] at h
    simp only [PyData.showable]
    exact gdAll_showable xs h
theorem gdAll_showable : ∀ xs : List PyData, gdAll xs = true → PyData.showableAll xs = true
  | [], _ => rfl
  | x :: xs, h => by
    simp only [gdAll, Bool.and_eq_true] at h
    simp only [PyData.showableAll, Bool.and_eq_true]
    exact ⟨gd_showable x h.1, gdAll_showable xs h.2⟩
end
mutual
theorem gd_lay : ∀ d : PyData, gd d = true → d.canLay0 = true
  | .none, _ => rfl
  | .bool _, _ => rfl
  | .int i, h => rfl
  | .str x, h => by
    simp only [gd, gS, Bool.and_eq_true] at h
    exact h.1.1
  | .list xs, h => by
    simp only [gd] at h
    simp only [PyData.canLay0]
    exact gdAll_lay xs h
  | .tuple xs, h => by
    simp only [gd] at h
    simp only [PyData.canLay0]
    exact gdAll_lay xs h
theorem gdAll_lay : ∀ xs : List PyData, gdAll xs = true → PyData.canLayAll0 xs = true
  | [], _ => rfl
  | x :: xs, h => by
    simp only [gdAll, Bool.and_eq_true] at h
    simp only [PyData.canLayAll0, Bool.and_eq_true]
    exact ⟨gd_lay x h.1, gdAll_lay xs h.2⟩
end
theorem strOk_iff {x : Str} : PyData.strOk x = true ↔ ∀ k ∈ x.cps.toList, k < 0x110000 := by
  unfold PyData.strOk
  rw [Array.all_eq_true_iff_forall_mem]
  simp
mutual
theorem gd_free {k : Nat} (hk : 0x110000 ≤ k) : ∀ d : PyData, gd d = true → k ∉ d.shown.cps.toList
  | .none, _ => by
    rw [PyData.shown_none]
    intro h
    have : ∀ c ∈ (("None" : String) : Str).cps.toList, c < 0x110000 := by decide
    have := this k h
    omega
  | .bool b, _ => by
    rw [PyData.shown_bool]
    intro h
    have : ∀ b : Bool, ∀ c ∈ (if b then "True" else "False" : Str).cps.toList, c < 0x110000 := by decide
    have := this b k h
    omega
  | .int i, h => shown_int_free' ⟨by omega, by omega⟩ i
  | .str x, h => by
    simp only [gd, gS, Bool.and_eq_true] at h
    intro hm
    have := strOk_iff.mp h.2 k hm
    omega
  | .list xs, h => by
    simp only [gd] at h
    rw [PyData.shown_list, cps_toList_append, cps_toList_append]
    intro hm
    simp only [List.mem_append, mem_join] at hm
    have t := gdAll_free hk xs h
    have c1 : ∀ c ∈ (("[" : String) : Str).cps.toList, c < 0x110000 := by decide
    have c2 : ∀ c ∈ ((", " : String) : Str).cps.toList, c < 0x110000 := by decide
    have c3 : ∀ c ∈ (("]" : String) : Str).cps.toList, c < 0x110000 := by decide
    rcases hm with (hm | ⟨t1, ht, hc⟩ | ⟨_, hm⟩) | hm
    · have := c1 k hm; omega
    · exact shownAll_free t t1 ht hc
    · have := c2 k hm; omega
    · have := c3 k hm; omega
  | .tuple xs, h => by
    simp only [gd] at h
    rw [PyData.shown_tuple, cps_toList_append, cps_toList_append]
    intro hm
    simp only [List.mem_append, mem_join] at hm
    have t := gdAll_free hk xs h
    have c1 : ∀ c ∈ (("(" : String) : Str).cps.toList, c < 0x110000 := by decide
    have c2 : ∀ c ∈ ((", " : String) : Str).cps.toList, c < 0x110000 := by decide
    have c3 : ∀ b : Bool, ∀ c ∈ ((if b = true then ",)" else ")" : String) : Str).cps.toList, c < 0x110000 := by decide
    rcases hm with (hm | ⟨t1, ht, hc⟩ | ⟨_, hm⟩) | hm
    · have := c1 k hm; omega
    · exact shownAll_free t t1 ht hc
    · have := c2 k hm; omega
    · have := c3 _ k hm; omega
theorem gdAll_free {k : Nat} (hk : 0x110000 ≤ k) : ∀ xs : List PyData, gdAll xs = true → ∀ x ∈ xs, k ∉ x.shown.cps.toList
  | [], _, _, hx => by cases hx
  | x :: xs, h, y, hy => by
    simp only [gdAll, Bool.and_eq_true] at h
    rcases List.mem_cons.mp hy with e | hy
    · rw [e]; exact gd_free hk x h.1
    · exact gdAll_free hk xs h.2 y hy
end
theorem gd_strOk {d : PyData} (h : gd d = true) : PyData.strOk d.shown = true := strOk_iff.mpr fun k hk => Nat.lt_of_not_le fun z => gd_free z d h hk

/-- v is the data d, not deep, not large -/
structure Dat (h : EH) (m b : Nat) (v : PV) (d : PyData) : Prop where
  to : ∀ k, m < k → toD h k v = some d
  ok : gd d = true
  dp : d.depth ≤ m
  bk : d.bulk ≤ b
structure Dats (h : EH) (m b : Nat) (vs : List PV) (ds : List PyData) : Prop where
  to : ∀ k, m < k → mapO (toD h k) vs = some ds
  ok : gdAll ds = true
  dp : PyData.depthAll ds ≤ m
  bk : PyData.bulkAll ds ≤ b
section
variable {h : EH} {m b c : Nat} {v : PV} {d : PyData} {vs : List PV} {ds : List PyData} {Q : PV → EH → Prop} {Qb : Bool → Prop}
theorem toD_pos {k : Nat} (hk : 0 < k) : ∃ j, k = j + 1 := ⟨k - 1, by omega⟩
theorem Dat.int {i : Int} (hi : i.natAbs < 10 ^ 12) : Dat h m b (.int i) (.int i) := ⟨fun k hk => by obtain ⟨j, rfl⟩ := toD_pos (show 0 < k by omega); rfl, by simp only [gd, decide_eq_true hi, Bool.true_or], by simp [PyData.depth], by simp [PyData.bulk]⟩
theorem Dat.int13 {i : Int} (h0 : 0 ≤ i) (hi : i.natAbs < 10 ^ 13) : Dat h m b (.int i) (.int i) := ⟨fun k hk => by obtain ⟨j, rfl⟩ := toD_pos (show 0 < k by omega); rfl, by simp only [gd, decide_eq_true hi, decide_eq_true h0, Bool.and_self, Bool.or_true], by simp [PyData.depth], by simp [PyData.bulk]⟩
theorem Dat.bl {x : Bool} : Dat h m b (.bl x) (.bool x) := ⟨fun k hk => by obtain ⟨j, rfl⟩ := toD_pos (show 0 < k by omega); rfl, rfl, by simp [PyData.depth], by simp [PyData.bulk]⟩
theorem Dat.non : Dat h m b .non .none := ⟨fun k hk => by obtain ⟨j, rfl⟩ := toD_pos (show 0 < k by omega); rfl, rfl, by simp [PyData.depth], by simp [PyData.bulk]⟩
theorem Dat.str {x : Str} (hx : gS x = true) (hl : x.cps.size ≤ b) : Dat h m b (.str x) (.str x) := ⟨fun k hk => by obtain ⟨j, rfl⟩ := toD_pos (show 0 < k by omega); rfl, hx, by simp [PyData.depth], by simpa [PyData.bulk] using hl⟩
theorem Dats.nil : Dats h m b [] [] := ⟨fun k hk => rfl, rfl, by simp [PyData.depthAll], by simp [PyData.bulkAll]⟩
theorem Dats.cons (x : Dat h m b v d) (y : Dats h m c vs ds) : Dats h m (b + 1 + c) (v :: vs) (d :: ds) :=
  ⟨fun k hk => by rw [mapO, x.to k hk, y.to k hk], by simp [gdAll, x.ok, y.ok], by simp only [PyData.depthAll]; exact Nat.max_le.mpr ⟨x.dp, y.dp⟩, by have := x.bk; have := y.bk; simp only [PyData.bulkAll]; omega⟩
theorem Dats.tup (x : Dats h m b vs ds) : Dat h (m + 1) b (.tup vs) (.tuple ds) :=
  ⟨fun k hk => by obtain ⟨j, rfl⟩ := toD_pos (show 0 < k by omega); simp only [toD, x.to j (by omega), Option.map_some], by simp [gd, x.ok], by have := x.dp; simp only [PyData.depth]; omega, by simpa [PyData.bulk] using x.bk⟩
theorem Dats.lst {n : Nat} (x : Dats h m b vs ds) (e : h[n]? = some (.lst vs)) : Dat h (m + 1) b (.ref n) (.list ds) :=
  ⟨fun k hk => by obtain ⟨j, rfl⟩ := toD_pos (show 0 < k by omega); simp only [toD, e, x.to j (by omega), Option.map_some], by simp [gd, x.ok], by have := x.dp; simp only [PyData.depth]; omega, by simpa [PyData.bulk] using x.bk⟩
/-- items alike -/
theorem Dats.map {α : Type} {f : α → PV} {g : α → PyData} {xs : List α} (hx : ∀ x ∈ xs, Dat h m b (f x) (g x)) : Dats h m (xs.length * (b + 1)) (xs.map f) (xs.map g) := by
  induction xs with
  | nil => exact ⟨fun k hk => rfl, rfl, by simp [PyData.depthAll], by simp [PyData.bulkAll]⟩
  | cons x xs ih =>
    have := Dats.cons (hx x List.mem_cons_self) (ih fun y hy => hx y (List.mem_cons_of_mem _ hy))
    refine ⟨this.to, this.ok, this.dp, Nat.le_trans this.bk (Nat.le_of_eq ?_)⟩
    rw [List.length_cons, Nat.succ_mul]
    omega
theorem Dats.more (x : Dats h m b vs ds) (hb : b ≤ c) : Dats h m c vs ds := ⟨x.to, x.ok, x.dp, Nat.le_trans x.bk hb⟩
theorem Dat.more (x : Dat h m b v d) (hb : b ≤ c) : Dat h m c v d := ⟨x.to, x.ok, x.dp, Nat.le_trans x.bk hb⟩
theorem Dats.deep {m' : Nat} (x : Dats h m b vs ds) (hb : m ≤ m') : Dats h m' b vs ds := ⟨fun k hk => x.to k (by omega), x.ok, Nat.le_trans x.dp hb, x.bk⟩
theorem Dat.deep {m' : Nat} (x : Dat h m b v d) (hb : m ≤ m') : Dat h m' b v d := ⟨fun k hk => x.to k (by omega), x.ok, Nat.le_trans x.dp hb, x.bk⟩
/-- repr(v) -/
theorem Dat.repr (x : Dat h m b v d) (hm : m ≤ 60) (hb : b ≤ 2 ^ 20) : Rr (opBi .repr [v] h) Q ↔ Q (.str d.shown) h := by
  have e := x.to DF (by unfold DF; omega)
  have hl := PyData.shown_fits_bulk (B := 13) (by decide) (by decide) (gd_short d x.ok) (Nat.le_trans x.bk hb)
  have hd : d.depth ≤ 66 := Nat.le_trans x.dp (by omega)
  simp only [opBi, e, if_pos (And.intro (gd_showable d x.ok) (And.intro hl hd)), Rr_ok]
theorem shaped_of (x : Dat h m b v d) (hm : m ≤ 60) : SeqAt.shaped d = true := by
  unfold SeqAt.shaped
  rw [gd_lay d x.ok, decide_eq_true (Nat.le_trans x.dp (by omega))]; rfl
theorem eqD_str {x y : Str} (hx : PyData.strOk x = true) (hy : PyData.strOk y = true) : eqD h (.str x) (.str y) = some (decide (x = y)) := by
  unfold eqD
  have s1 : SeqAt.shaped (.str x) = true := by unfold SeqAt.shaped; simp [PyData.canLay0, hx, PyData.depth]
  have s2 : SeqAt.shaped (.str y) = true := by unfold SeqAt.shaped; simp [PyData.canLay0, hy, PyData.depth]
  simp only [toD, DF, s1, s2, and_self, if_true, PyData.eqv]
  rfl
theorem c_eqS {x y : Str} (hx : PyData.strOk x = true) (hy : PyData.strOk y = true) : R (opC .eq (.str x) (.str y) h) Qb ↔ Qb (decide (x = y)) := by simp only [opC, eqD_str hx hy, R_some]
theorem c_neS {x y : Str} (hx : PyData.strOk x = true) (hy : PyData.strOk y = true) : R (opC .ne (.str x) (.str y) h) Qb ↔ Qb (!decide (x = y)) := by simp only [opC, eqD_str hx hy, Option.map_some, R_some]
/-- data that are alike: what repr says of them is alike -/
theorem c_neSelf (x : gd d = true) : R (opC .ne (.str d.shown) (.str d.shown) h) Qb ↔ Qb false := by rw [c_neS (gd_strOk x) (gd_strOk x)]; simp
theorem c_eqSelf (x : gd d = true) : R (opC .eq (.str d.shown) (.str d.shown) h) Qb ↔ Qb true := by rw [c_eqS (gd_strOk x) (gd_strOk x)]; simp
end
end EV

set_option Elab.async false
set_option linter.all false
set_option maxRecDepth 100000
set_option maxHeartbeats 4000000
/-! EV22: sheets of lines, and how the laws draw them. -/
namespace EV
open PySem PySem.Spec
inductive Wd where
  | sign | not | and | or | before | since
  deriving DecidableEq
def wS : Wd → Str
  | .sign => "sign" | .not => "not" | .and => "and" | .or => "or" | .before => "before" | .since => "since"
theorem wS_inj {a b : Wd} : wS a = wS b ↔ a = b := by
  cases a <;> cases b <;> decide
theorem wS_gS (a : Wd) : gS (wS a) = true := by cases a <;> decide +kernel
theorem wS_ok (a : Wd) : PyData.strOk (wS a) = true := by cases a <;> decide +kernel
section
variable {h : EH} {Qb : Bool → Prop}
@[simp] theorem c_eqW {a b : Wd} : R (opC .eq (.str (wS a)) (.str (wS b)) h) Qb ↔ Qb (decide (a = b)) := by
  rw [c_eqS (wS_ok a) (wS_ok b)]
  simp only [wS_inj]
theorem in_strs {x : Str} {ys : List Str} (hx : PyData.strOk x = true) (hy : ∀ y ∈ ys, PyData.strOk y = true) : inD h (.str x) (ys.map .str) = some (decide (x ∈ ys)) := by
  have e : mapO (toD h DF) (ys.map PV.str) = some (ys.map PyData.str) := by
    clear hy
    induction ys with
    | nil => rfl
    | cons y ys ih => simp only [List.map_cons, mapO, ih]; simp [toD, DF]
  have s1 : SeqAt.shaped (.str x) = true := by unfold SeqAt.shaped; simp [PyData.canLay0, hx, PyData.depth]
  have s2 : SeqAt.shaped (.list (ys.map .str)) = true := by
    have a : PyData.canLayAll0 (ys.map .str) = true := by
      clear e
      induction ys with
      | nil => rfl
      | cons y ys ih => simp [PyData.canLayAll0, PyData.canLay0, hy y, ih fun z hz => hy z (List.mem_cons_of_mem _ hz)]
    have b : PyData.depthAll (ys.map .str) = 0 := by
      clear e hy a
      induction ys with
      | nil => rfl
      | cons y ys ih => simp [PyData.depthAll, PyData.depth, ih]
    unfold SeqAt.shaped
    simp [PyData.canLay0, PyData.depth, a, b]
  unfold inD
  rw [e]
  have e2 : toD h DF (.str x) = some (.str x) := rfl
  rw [e2]
  simp only [s1, s2, and_self, if_true]
  congr 1
  clear e s2 hy
  induction ys with
  | nil => rfl
  | cons y ys ih =>
    simp only [List.map_cons, List.any_cons, ih, PyData.eqv, List.mem_cons]
    by_cases c : x = y
    · subst c; simp
    · have : (y == x) = false := by simpa using fun z => c z.symm
      simp [this, c]
theorem c_inW {a : Wd} {bs : List Wd} : R (opC .isIn (.str (wS a)) (.tup (bs.map fun b => .str (wS b))) h) Qb ↔ Qb (decide (a ∈ bs)) := by
  have e : (bs.map fun b => PV.str (wS b)) = (bs.map wS).map .str := by rw [List.map_map]; rfl
  have z : isIn h (.str (wS a)) (.tup (bs.map fun b => .str (wS b))) = some (decide (wS a ∈ bs.map wS)) := by
    rw [e]
    exact in_strs (wS_ok a) fun y hy => by
      obtain ⟨b, _, rfl⟩ := List.mem_map.mp hy
      exact wS_ok b
  simp only [opC, z, R_some, List.mem_map, wS_inj, exists_eq_right]
end
/-- a line of a sheet -/
inductive Ln where
  | sign (a : Nat) | not (i : Nat) | and (i j : Nat) | or (i j : Nat) | before (i : Nat) | since (i j : Nat)
def Ln.wd : Ln → Wd
  | .sign _ => .sign | .not _ => .not | .and _ _ => .and | .or _ _ => .or | .before _ => .before | .since _ _ => .since
def Ln.args : Ln → List Nat
  | .sign a => [a] | .not i => [i] | .and i j => [i, j] | .or i j => [i, j] | .before i => [i] | .since i j => [i, j]
/-- the places it looks at -/
def Ln.at : Ln → List Nat
  | .sign _ => [] | .not i => [i] | .and i j => [i, j] | .or i j => [i, j] | .before i => [i] | .since i j => [i, j]
def Ln.enc (l : Ln) : PV := .tup (.str (wS l.wd) :: l.args.map fun (i : Nat) => .int i)
/-- a line at the place k of a sheet over `many` signs -/
def Ln.ok (many k : Nat) (l : Ln) : Prop := (∀ i ∈ l.at, i < k) ∧ ∀ a, l = .sign a → a < many
def SheetOk (many : Nat) (sh : List Ln) : Prop := ∀ (k : Nat) (l : Ln), sh[k]? = some l → l.ok many k
def encS (sh : List Ln) : PV := .tup (sh.map Ln.enc)

def cLineK (ip io : Nat) : CE := .bin .sub (.bin .sub (.var 2) (.lit (.int 1))) (.call ip (.cons (.var 0) (.cons (.bi .min (.cons (.var 2) (.cons (.call io (.cons (.var 0) (.cons (.lst (.cons (.lit (.int 2)) (.cons (.lit (.int 4)) (.cons (.var 2) .nil)))) .nil))) .nil))) .nil)))
def csLineT (ip : Nat) : CSs := (.cons (.ifs (.cmp .eq (.var 4) (.lit (.str (wS .sign))))
 (.cons (.ret (.tup (.cons (.var 4) (.cons (.call ip (.cons (.var 0) (.cons (.var 1) .nil))) .nil))))
 .nil)
 .nil)
 (.cons (.ret (.ife (.cmp .isIn (.var 4) (.tup (.cons (.lit (.str (wS .not))) (.cons (.lit (.str (wS .before))) .nil)))) (.tup (.cons (.var 4) (.cons (.idx (.var 5) (.lit (.int 0))) .nil))) (.tup (.cons (.var 4) (.cons (.idx (.var 5) (.lit (.int 0))) (.cons (.idx (.var 5) (.lit (.int 1))) .nil))))))
 .nil))
def csLineR (ip io : Nat) : CSs := .cons (.asg (.nm 5) (.comp (cLineK ip io) (.nm 6) (.rng (.cons (.lit (.int 2)) .nil)) (.lit (.bl true)) [6])) (csLineT ip)
def csLine (ip io : Nat) : CSs := (.cons (.asg (.nm 4) (.call io (.cons (.var 0) (.cons (.ife (.var 3) (.lst (.cons (.lit (.str (wS .before))) (.cons (.lit (.str (wS .since))) .nil))) (.lst (.cons (.lit (.str (wS .sign))) (.cons (.lit (.str (wS .not))) (.cons (.lit (.str (wS .and))) (.cons (.lit (.str (wS .or))) (.cons (.lit (.str (wS .and))) (.cons (.lit (.str (wS .or))) .nil)))))))) .nil)))) (csLineR ip io))
def csSheet (ip il : Nat) : CSs := (.cons (.asg (.nm 4) (.lst (.cons (.tup (.cons (.lit (.str (wS .sign))) (.cons (.call ip (.cons (.var 0) (.cons (.var 1) .nil))) .nil))) .nil)))
 (.cons (.frr (.nm 5) (.rng (.cons (.lit (.int 1)) (.cons (.var 2) .nil)))
 (.cons (.asg (.nm 6) (.and (.cmp .gt (.var 3) (.lit (.int 0))) (.cmp .eq (.call ip (.cons (.var 0) (.cons (.lit (.int 3)) .nil))) (.lit (.int 0)))))
 (.cons (.asg (.nm 3) (.bin .sub (.var 3) (.bi .int (.cons (.var 6) .nil))))
 (.cons (.expr (.meth .append (.var 4) (.cons (.call il (.cons (.var 0) (.cons (.var 1) (.cons (.var 5) (.cons (.var 6) .nil))))) .nil)))
 .nil))))
 (.cons (.ret (.bi .tuple (.cons (.var 4) .nil)))
 .nil)))
section
variable {P : List Fn} {fu d ip io il : Nat} {n c : Nat} {h : EH} {Q : PV → EH → Prop}
/-- one of a list -/
theorem of_list {r : Nat} {xs : List PV} (hP : P[ip]? = some ⟨2, 4, csPick⟩) (hO : P[io]? = some ⟨2, 2, csOf ip⟩) (hs : Src n c h) (e : h[r]? = some (.lst xs)) (rn : r ≠ n) (rc : r ≠ c) (hx : 0 < xs.length) (hx2 : xs.length < 2 ^ 62) (hfu : 100 < fu)
    (q : ∀ (k : Nat) (x : PV) h', xs[k]? = some x → Src n c h' → Kp [n, c] h.length h h' → Q x h') : Rr (run P fu (d + 2) io [.ref n, .ref r] h) Q := by
  refine of_ok hP hO hs (fun Q' => b_lenR e) hx hx2 hfu fun h' k hk s kp => ?_
  have e2 : h'[r]? = some (.lst xs) := kp.get e (get_lt e) (by simp [rn, rc])
  rw [x_lst e2, seqAt_nat]
  exact ⟨_, List.getElem?_eq_getElem hk, q k _ h' (List.getElem?_eq_getElem hk) s kp⟩
theorem line_ok {many k : Nat} {many' k' : Int} {lk : Bool} (em : many' = many) (ek : k' = k) (hP : P[ip]? = some ⟨2, 4, csPick⟩) (hO : P[io]? = some ⟨2, 2, csOf ip⟩) (hL : P[il]? = some ⟨4, 7, csLine ip io⟩) (hs : Src n c h) (hm : 1 ≤ many) (hm2 : many ≤ 1000) (hk : 1 ≤ k) (hk2 : k ≤ 1000) (hfu : 100 < fu)
    (q : ∀ (l : Ln) h', l.ok many k → Src n c h' → Kp [n, c] h.length h h' → Q l.enc h') : Rr (run P fu (d + 3) il [.ref n, .int many', .int k', .bl lk] h) Q := by
  subst em ek
  refine run_R hL rfl ?_
  obtain ⟨ln, lc⟩ := hs.lt
  have rest : ∀ (w : Wd) h1, Src n c h1 → Kp [n, c] h.length h h1 → Ss (run P fu (d + 2)) fu (csLineR ip io) [some (.ref n), some (.int many), some (.int k), some (.bl lk), some (.str (wS w)), none, none] h1 (retQ Q) := by
    intro w h1 s1 k1
    have hr : rangeOf [.int 2] = some [.int 0, .int 1] := rfl
    simp [csLineR, hr, wipeE]
    refine Cp_st (fun i acc h2 => Src n c h2 ∧ Kp [n, c] h.length h h2 ∧ acc.length = i ∧ ∀ x ∈ acc, ∃ j : Nat, x = .int j ∧ j < k) ⟨s1, k1, rfl, by simp⟩ ?_ ?_
    · rintro i acc x h2 hx ⟨s2, k2, ha, hb⟩
      have hi := (List.getElem?_eq_some_iff.mp hx).1
      simp [bindT, cLineK]
      obtain ⟨ln2, lc2⟩ := s2.lt
      have kn : Kp [n, c] h2.length h2 (h2 ++ [.lst [.int 2, .int 4, .int k]]) := Kp.new (Nat.le_refl _)
      have s3 : Src n c (h2 ++ [.lst [.int 2, .int 4, .int k]]) := s2.kp (M := []) (Kp.new (Nat.le_refl _)) ln2 lc2 (by simp) (by simp)
      refine of_list hP hO s3 get_new (by omega) (by omega) (by simp) (by simp) hfu fun j x h4 hj s4 k4 => ?_
      have hv : ∃ v : Int, x = .int v ∧ 1 ≤ v := by
        match j, hj with
        | 0, hj => cases hj; exact ⟨2, rfl, by omega⟩
        | 1, hj => cases hj; exact ⟨4, rfl, by omega⟩
        | 2, hj => cases hj; exact ⟨k, rfl, by omega⟩
        | j + 3, hj => simp at hj
      obtain ⟨v, rfl, v1⟩ := hv
      simp
      have k34 := k2.trans ((kn.less k2.2.1).trans (k4.less (by have := k2.2.1; simp; omega)))
      refine pick_ok hP s4 (by split <;> omega) (by split <;> omega) hfu fun p h5 p0 p1 s5 k5 => ?_
      simp
      refine ⟨by simp at hi; omega, s5, k34.trans (k5.less k34.2.1), by omega, ?_⟩
      rintro y (hy | rfl)
      · exact hb y hy
      · refine ⟨k - 1 - p.toNat, ?_, ?_⟩
        · have : p < k := by
            have z : (if v < (k : Int) then v else (k : Int)) ≤ k := by split <;> omega
            omega
          congr 1
          omega
        · omega
    · rintro acc h2 ⟨s2, k2, ha, hb⟩
      obtain ⟨x, y, rfl⟩ : ∃ x y, acc = [x, y] := by
        match acc, ha with
        | [x, y], _ => exact ⟨x, y, rfl⟩
      obtain ⟨i, rfl, hi⟩ := hb x (by simp)
      obtain ⟨j, rfl, hj⟩ := hb y (by simp)
      obtain ⟨ln2, lc2⟩ := s2.lt
      have s3 : Src n c (h2 ++ [.lst [.int i, .int j]]) := s2.kp (M := []) (Kp.new (Nat.le_refl _)) ln2 lc2 (by simp) (by simp)
      have k3 : Kp [n, c] h.length h (h2 ++ [.lst [.int i, .int j]]) := k2.trans (Kp.new k2.2.1)
      have e0 : seqAt [PV.int i, .int j] 0 = some (.int i) := rfl
      have e1 : seqAt [PV.int i, .int j] 1 = some (.int j) := rfl
      have cin : ∀ Qb, R (opC .isIn (.str (wS w)) (.tup [.str (wS .not), .str (wS .before)]) (h2 ++ [.lst [.int i, .int j]])) Qb ↔ Qb (decide (w ∈ [Wd.not, Wd.before])) := fun Qb => c_inW (bs := [.not, .before])
      simp [csLineT, x_lst get_new, cin, e0, e1]
      cases w
      · simp
        refine pick_ok hP s3 (by omega) (by omega) hfu fun p h5 p0 p1 s5 k5 => ?_
        have := q (.sign p.toNat) h5 ⟨by simp [Ln.at], fun a e => by cases e; omega⟩ s5 (k3.trans (k5.less k3.2.1))
        have ep : ((p.toNat : Nat) : Int) = p := by omega
        simpa [retQ, Ln.enc, Ln.wd, Ln.args, ep] using this
      · exact q (.not i) _ ⟨by simp [Ln.at, hi], fun a e => by cases e⟩ s3 k3
      · exact q (.and i j) _ ⟨by simp [Ln.at, hi, hj], fun a e => by cases e⟩ s3 k3
      · exact q (.or i j) _ ⟨by simp [Ln.at, hi, hj], fun a e => by cases e⟩ s3 k3
      · exact q (.before i) _ ⟨by simp [Ln.at, hi], fun a e => by cases e⟩ s3 k3
      · exact q (.since i j) _ ⟨by simp [Ln.at, hi, hj], fun a e => by cases e⟩ s3 k3
  have kn : ∀ o, Kp [n, c] h.length h (h ++ [o]) := fun o => Kp.new (Nat.le_refl _)
  have sn : ∀ o, Src n c (h ++ [o]) := fun o => hs.kp (M := []) (Kp.new (Nat.le_refl _)) ln lc (by simp) (by simp)
  cases lk with
  | true =>
    simp [csLine]
    refine of_list hP hO (sn _) get_new (by omega) (by omega) (by simp) (by simp) hfu fun j x h4 hj s4 k4 => ?_
    have k5 := (kn _).trans (k4.less (by simp))
    match j, hj with
    | 0, hj => cases hj; exact rest .before _ s4 k5
    | 1, hj => cases hj; exact rest .since _ s4 k5
    | j + 2, hj => simp at hj
  | false =>
    simp [csLine]
    refine of_list hP hO (sn _) get_new (by omega) (by omega) (by simp) (by simp) hfu fun j x h4 hj s4 k4 => ?_
    have k5 := (kn _).trans (k4.less (by simp))
    match j, hj with
    | 0, hj => cases hj; exact rest .sign _ s4 k5
    | 1, hj => cases hj; exact rest .not _ s4 k5
    | 2, hj => cases hj; exact rest .and _ s4 k5
    | 3, hj => cases hj; exact rest .or _ s4 k5
    | 4, hj => cases hj; exact rest .and _ s4 k5
    | 5, hj => cases hj; exact rest .or _ s4 k5
    | j + 6, hj => simp at hj
theorem rL_get : ∀ (m : Nat) (lo st : Int) (i : Nat), (rangeL lo st m)[i]? = if i < m then some (.int (lo + i * st)) else none
  | 0, lo, st, i => by simp [rangeL]
  | m + 1, lo, st, 0 => by simp [rangeL]
  | m + 1, lo, st, i + 1 => by
    rw [rangeL, List.getElem?_cons_succ, rL_get m]
    by_cases z : i < m
    · rw [if_pos z, if_pos (by omega)]
      congr 2
      push_cast
      rw [Int.add_mul]
      omega
    · rw [if_neg z, if_neg (by omega)]
theorem rangeL_len : ∀ (m : Nat) (lo st : Int), (rangeL lo st m).length = m
  | 0, lo, st => rfl
  | m + 1, lo, st => by rw [rangeL, List.length_cons, rangeL_len m]
theorem range1 {j : Int} (hj : small62 j = true) : rangeOf [.int j] = some (rangeL 0 1 j.toNat) := by simp only [rangeOf, hj, if_true]
theorem range2 {i j : Int} (hi : small62 i = true) (hj : small62 j = true) : rangeOf [.int i, .int j] = some (rangeL i 1 (j - i).toNat) := by simp [rangeOf, hi, hj]
theorem small_of {j : Int} (h0 : -1000000000 ≤ j) (h1 : j ≤ 1000000000) : small62 j = true := by
  unfold small62
  rw [decide_eq_true (by omega), decide_eq_true (by omega)]; rfl
theorem rng1 {j : Int} (h : j ≤ 1000000000) (h0 : 0 ≤ j) : rangeOf [.int 1, .int j] = some (rangeL 1 1 (j - 1).toNat) := range2 (small_of (by omega) (by omega)) (small_of (by omega) h)
theorem rngE {F : Ca} {fu i : Nat} {j : Int} {s : Sg} {h : EH} (e : s[i]? = some (some (.int j))) (h1 : j ≤ 1000000000) (h0 : 0 ≤ j) : evI F fu (.rng (.cons (.lit (.int 1)) (.cons (.var i) .nil))) s h = some (.st (rangeL 1 1 (j - 1).toNat), h) := by
  simp only [evI, evs, ev, e, rng1 h1 h0]
/-- while a sheet is drawn -/
def ShI (many size n c b L : Nat) (h : EH) (i : Nat) (s : Sg) (h2 : EH) : Prop := ∃ (sh : List Ln) (lk : Int) (x y : Option PV), s = [some (.ref n), some (.int many), some (.int size), some (.int lk), some (.ref L), x, y] ∧ h2[L]? = some (.lst (sh.map Ln.enc)) ∧ sh.length = i + 1 ∧ SheetOk many sh ∧ Src n c h2 ∧ Kp [n, c] b h h2
theorem sheet_ok {ish many size : Nat} {looks many' size' : Int} (em : many' = many) (es : size' = size) (hP : P[ip]? = some ⟨2, 4, csPick⟩) (hO : P[io]? = some ⟨2, 2, csOf ip⟩) (hL : P[il]? = some ⟨4, 7, csLine ip io⟩) (hS : P[ish]? = some ⟨4, 7, csSheet ip il⟩) (hs : Src n c h) (hm : 1 ≤ many) (hm2 : many ≤ 1000) (hk : 1 ≤ size) (hk2 : size ≤ 1000) (hfu : 100 < fu)
    (q : ∀ (sh : List Ln) h', sh.length = size → SheetOk many sh → Src n c h' → Kp [n, c] h.length h h' → Q (encS sh) h') : Rr (run P fu (d + 4) ish [.ref n, .int many', .int size', .int looks] h) Q := by
  subst em es
  refine run_R hS rfl ?_
  simp only [csSheet, Ss_cons]
  simp
  refine pick_ok hP hs (by omega) (by omega) hfu fun p h1 p0 p1 s1 k1 => ?_
  obtain ⟨ln, lc⟩ := hs.lt
  obtain ⟨ln1, lc1⟩ := s1.lt
  refine for_st (xs := rangeL 1 1 ((size : Int) - 1).toNat) (h1 := h1 ++ [.lst [.tup [.str (wS .sign), .int p]]])
    (ShI many size n c h.length h1.length h) ?_ ?_ ?_ ?_
  · exact rngE rfl (by omega) (by omega)
  · refine ⟨[.sign p.toNat], looks, none, none, rfl, ?_, rfl, ?_, ?_, ?_⟩
    · have ep : ((p.toNat : Nat) : Int) = p := by omega
      simp [Ln.enc, Ln.wd, Ln.args, ep]
    · intro k l hl
      match k, hl with
      | 0, hl => cases hl; exact ⟨by simp [Ln.at], fun a e => by cases e; omega⟩
      | k + 1, hl => simp at hl
    · exact s1.kp (M := []) (Kp.new (Nat.le_refl _)) ln1 lc1 (by simp) (by simp)
    · exact k1.trans (Kp.new k1.2.1)
  · rintro i x s h2 hx ⟨sh, lk, a, b, rfl, e2, hl, ok, s2, k2⟩
    rw [rL_get] at hx
    split at hx <;> cases hx
    rename_i hi
    obtain ⟨ln2, lc2⟩ := s2.lt
    have hL1 := get_lt e2
    have next : ∀ (lk2 : Int) (bb : Bool) h3, Src n c h3 → Kp [n, c] h2.length h2 h3 → Ss (run P fu (d + 3)) fu (.cons (.asg (.nm 3) (.bin .sub (.var 3) (.bi .int (.cons (.var 6) .nil)))) (.cons (.expr (.meth .append (.var 4) (.cons (.call il (.cons (.var 0) (.cons (.var 1) (.cons (.var 5) (.cons (.var 6) .nil))))) .nil))) .nil))
        [some (.ref n), some (.int many), some (.int size), some (.int lk), some (.ref h1.length), some (.int (1 + i * 1)), some (.bl bb)] h3
        (turn (ShI many size n c h.length h1.length h (i + 1)) (nxt (run P fu (d + 3)) fu (.cons (.ret (.bi .tuple (.cons (.var 4) .nil))) .nil) (retQ Q))) := by
      intro _ bb h3 s3 k3
      have e3 : h3[h1.length]? = some (.lst (sh.map Ln.enc)) := k3.get e2 hL1 (by simp; omega)
      simp [k_lst e3]
      refine line_ok (k := i + 1) rfl (by push_cast; omega) hP hO hL s3 hm hm2 (by omega) (by omega) hfu fun l h4 hl4 s4 k4 => ?_
      have e4 : h4[h1.length]? = some (.lst (sh.map Ln.enc)) := k4.get e3 (get_lt e3) (by simp; omega)
      have hle : h.length ≤ h1.length := k1.2.1
      rw [m_append e4 (by simp; omega)]
      have k5 : Kp [n, c] h.length h h4 := k2.trans ((k3.less k2.2.1).trans (k4.less (Nat.le_trans k2.2.1 k3.2.1)))
      refine ⟨sh ++ [l], _, _, _, rfl, ?_, by simp [hl], ?_, ?_, k5.trans (Kp.set k5.2.1 (.inr hle))⟩
      · rw [List.getElem?_set_self (get_lt e4)]; simp
      · intro k l2 hk2
        rw [List.getElem?_append] at hk2
        split at hk2
        · exact ok k l2 hk2
        · have : k = sh.length := by
            have := (List.getElem?_eq_some_iff.mp hk2).1
            simp at this
            omega
          subst this
          simp at hk2
          subst hk2
          rw [hl]
          exact hl4
      · obtain ⟨ln4, lc4⟩ := s4.lt
        exact s4.kp (M := []) (Kp.set (n := h1.length) (Nat.le_of_lt (get_lt e4)) (.inr (Nat.le_refl _))) (by omega) (by omega) (by simp) (by simp)
    simp [bindT]
    split
    · refine pick_ok hP s2 (by omega) (by omega) hfu fun v h3 v0 v1 s3 k3 => ?_
      have := next lk (decide (v = 0)) h3 s3 k3
      simpa using this
    · rename_i hz
      have := next lk false h2 s2 (Kp.refl (Nat.le_refl _))
      simpa [hz] using this
  · rintro s h2 ⟨sh, lk, a, b, rfl, e2, hl, ok, s2, k2⟩
    rw [rangeL_len] at hl
    simp [b_tupR e2]
    exact q sh h2 (by omega) ok s2 k2
end
end EV

set_option Elab.async false
set_option linter.all false
set_option maxRecDepth 100000
set_option maxHeartbeats 4000000
/-! EV23: the truths of lines, moment by moment (the program's way). -/
namespace EV
open PySem PySem.Spec
/-- the truth of a line -/
def lt (l : Ln) (k : Nat) (prev : Option (List Bool)) (now : List Bool) (sg : Nat) : Bool := match l with
  | .sign a => decide (a = sg)
  | .not i => !(now.getD i false)
  | .and i j => now.getD i false && now.getD j false
  | .or i j => now.getD i false || now.getD j false
  | .before i => match prev with
    | none => false
    | some p => p.getD i false
  | .since i j => now.getD j false || (now.getD i false && match prev with
    | none => false
    | some p => p.getD k false)
def pre (sh : List Ln) (prev : Option (List Bool)) (sg : Nat) : Nat → List Bool
  | 0 => []
  | i + 1 => pre sh prev sg i ++ [lt (sh.getD i (.sign 0)) i prev (pre sh prev sg i) sg]
theorem pre_len {sh : List Ln} {prev : Option (List Bool)} {sg : Nat} : ∀ i, (pre sh prev sg i).length = i
  | 0 => rfl
  | i + 1 => by simp [pre, pre_len i]
def row (sh : List Ln) (prev : Option (List Bool)) (sg : Nat) : List Bool := pre sh prev sg sh.length
def rows (sh : List Ln) : Option (List Bool) → List Nat → List (List Bool)
  | _, [] => []
  | p, s :: r => row sh p s :: rows sh (some (row sh p s)) r
/-- a row as a value -/
def encR (x : List Bool) : PV := .tup (x.map .bl)
def encO : Option (List Bool) → PV
  | none => .non
  | some x => encR x
def encH (hs : List Nat) : PV := .tup (hs.map fun (s : Nat) => .int s)

def csTruth : CSs := (.cons (.asg (.nm 5) (.idx (.var 0) (.lit (.int 0))))
 (.cons (.ifs (.cmp .eq (.var 5) (.lit (.str (wS .sign))))
 (.cons (.ret (.cmp .eq (.idx (.var 0) (.lit (.int 1))) (.var 4)))
 .nil)
 .nil)
 (.cons (.ifs (.cmp .eq (.var 5) (.lit (.str (wS .not))))
 (.cons (.ret (.nt (.idx (.var 3) (.idx (.var 0) (.lit (.int 1))))))
 .nil)
 .nil)
 (.cons (.ifs (.cmp .eq (.var 5) (.lit (.str (wS .and))))
 (.cons (.ret (.and (.idx (.var 3) (.idx (.var 0) (.lit (.int 1)))) (.idx (.var 3) (.idx (.var 0) (.lit (.int 2))))))
 .nil)
 .nil)
 (.cons (.ifs (.cmp .eq (.var 5) (.lit (.str (wS .or))))
 (.cons (.ret (.or (.idx (.var 3) (.idx (.var 0) (.lit (.int 1)))) (.idx (.var 3) (.idx (.var 0) (.lit (.int 2))))))
 .nil)
 .nil)
 (.cons (.ifs (.cmp .eq (.var 5) (.lit (.str (wS .before))))
 (.cons (.ret (.and (.cmp .isNot (.var 2) (.lit .non)) (.idx (.var 2) (.idx (.var 0) (.lit (.int 1))))))
 .nil)
 .nil)
 (.cons (.ret (.or (.idx (.var 3) (.idx (.var 0) (.lit (.int 2)))) (.and (.idx (.var 3) (.idx (.var 0) (.lit (.int 1)))) (.and (.cmp .isNot (.var 2) (.lit .non)) (.idx (.var 2) (.var 1))))))
 .nil)))))))
def csNext (i0 : Nat) : CSs := (.cons (.asg (.nm 3) (.lst .nil))
 (.cons (.frr (.tp [4, 5]) (.enum (.var 0))
 (.cons (.expr (.meth .append (.var 3) (.cons (.call i0 (.cons (.var 5) (.cons (.var 4) (.cons (.var 1) (.cons (.var 3) (.cons (.var 2) .nil)))))) .nil)))
 .nil))
 (.cons (.ret (.bi .tuple (.cons (.var 3) .nil)))
 .nil)))
def csTruths (i1 : Nat) : CSs := (.cons (.par [2, 3] (.cons (.lit .non) (.cons (.lst .nil) .nil)))
 (.cons (.frr (.nm 4) (.val (.var 1))
 (.cons (.asg (.nm 2) (.call i1 (.cons (.var 0) (.cons (.var 2) (.cons (.var 4) .nil)))))
 (.cons (.expr (.meth .append (.var 3) (.cons (.var 2) .nil)))
 .nil)))
 (.cons (.ret (.var 3))
 .nil)))
def csFrom (i1 : Nat) : CSs := (.cons (.frr (.nm 3) (.val (.var 2))
 (.cons (.asg (.nm 1) (.call i1 (.cons (.var 0) (.cons (.var 1) (.cons (.var 3) .nil)))))
 .nil))
 (.cons (.ret (.var 1))
 .nil))
section
variable {P : List Fn} {fu d i0 i1 i2 i3 : Nat} {h : EH} {Q : PV → EH → Prop}
theorem getD_ix {xs : List Bool} {i : Nat} (hi : i < xs.length) : (xs.map PV.bl)[i]? = some (.bl (xs.getD i false)) := by
  simp [List.getElem?_eq_getElem hi]
theorem seqAt_bl {xs : List Bool} {i : Nat} (hi : i < xs.length) : seqAt (xs.map PV.bl) (i : Int) = some (.bl (xs.getD i false)) := by
  rw [seqAt_nat, getD_ix hi]
theorem sq0 {x : PV} {xs : List PV} : seqAt (x :: xs) 0 = some x := rfl
theorem sq1 {x y : PV} {xs : List PV} : seqAt (x :: y :: xs) 1 = some y := rfl
theorem sq2 {x y z : PV} {xs : List PV} : seqAt (x :: y :: z :: xs) 2 = some z := rfl
@[simp] theorem c_isNotNon {Qb : Bool → Prop} : R (opC .isNot .non .non h) Qb ↔ Qb false := R_some
@[simp] theorem c_isNotTup {Qb : Bool → Prop} {xs : List PV} : R (opC .isNot (.tup xs) .non h) Qb ↔ Qb true := R_some
theorem lineT_ok {l : Ln} {many k r sg : Nat} {prev : Option (List Bool)} {now : List Bool} {k' sg' : Int} (ek : k' = k) (es : sg' = sg) (hP : P[i0]? = some ⟨5, 6, csTruth⟩) (hl : l.ok many k) (hr : h[r]? = some (.lst (now.map .bl))) (hn : now.length = k) (hp : ∀ p, prev = some p → k < p.length)
    (q : Q (.bl (lt l k prev now sg)) h) : Rr (run P fu (d + 1) i0 [l.enc, .int k', encO prev, .ref r, .int sg'] h) Q := by
  subst ek es
  refine run_R hP rfl ?_
  obtain ⟨hl, _⟩ := hl
  cases l with
  | sign a =>
    have e : decide (((a : Nat) : Int) = ((sg : Nat) : Int)) = decide (a = sg) := decide_eq_decide.mpr Int.ofNat_inj
    simp [csTruth, Ln.enc, Ln.wd, Ln.args, sq0, sq1]
    simp only [lt] at q
    show Q (.bl (decide (((a : Nat) : Int) = ((sg : Nat) : Int)))) h
    rw [e]
    exact q
  | not i =>
    have hi : i < now.length := by rw [hn]; exact hl i (by simp [Ln.at])
    simp [csTruth, Ln.enc, Ln.wd, Ln.args, sq0, sq1, x_lst hr, seqAt_bl hi]
    simpa [lt, retQ] using q
  | and i j =>
    have hi : i < now.length := by rw [hn]; exact hl i (by simp [Ln.at])
    have hj : j < now.length := by rw [hn]; exact hl j (by simp [Ln.at])
    simp [csTruth, Ln.enc, Ln.wd, Ln.args, sq0, sq1, sq2, x_lst hr, seqAt_bl hi, seqAt_bl hj]
    simp only [lt] at q
    simp only [List.getD_eq_getElem?_getD] at q
    cases e : now[i]?.getD false <;> simp [e, retQ] at q ⊢ <;> exact q
  | or i j =>
    have hi : i < now.length := by rw [hn]; exact hl i (by simp [Ln.at])
    have hj : j < now.length := by rw [hn]; exact hl j (by simp [Ln.at])
    simp [csTruth, Ln.enc, Ln.wd, Ln.args, sq0, sq1, sq2, x_lst hr, seqAt_bl hi, seqAt_bl hj]
    simp only [lt] at q
    simp only [List.getD_eq_getElem?_getD] at q
    cases e : now[i]?.getD false <;> simp [e, retQ] at q ⊢ <;> exact q
  | before i =>
    have hi : i < k := hl i (by simp [Ln.at])
    cases prev with
    | none =>
      simp [csTruth, Ln.enc, Ln.wd, Ln.args, sq0, sq1, encO]
      simpa [lt, retQ] using q
    | some p =>
      have := hp p rfl
      simp [csTruth, Ln.enc, Ln.wd, Ln.args, sq0, sq1, encO, encR, seqAt_bl (show i < p.length by omega)]
      simpa [lt, retQ] using q
  | since i j =>
    have hi : i < now.length := by rw [hn]; exact hl i (by simp [Ln.at])
    have hj : j < now.length := by rw [hn]; exact hl j (by simp [Ln.at])
    cases prev with
    | none =>
      simp [csTruth, Ln.enc, Ln.wd, Ln.args, sq0, sq1, sq2, encO, x_lst hr, seqAt_bl hi, seqAt_bl hj]
      simp only [lt] at q
      simp only [List.getD_eq_getElem?_getD] at q
      cases e : now[j]?.getD false <;> cases e2 : now[i]?.getD false <;> simp [e, e2, retQ] at q ⊢ <;> exact q
    | some p =>
      have hk := hp p rfl
      simp [csTruth, Ln.enc, Ln.wd, Ln.args, sq0, sq1, sq2, encO, encR, x_lst hr, seqAt_bl hi, seqAt_bl hj, seqAt_bl hk]
      simp only [lt] at q
      simp only [List.getD_eq_getElem?_getD] at q
      cases e : now[j]?.getD false <;> cases e2 : now[i]?.getD false <;> simp [e, e2, retQ] at q ⊢ <;> exact q
theorem eL_get : ∀ (xs : List PV) (k i : Nat), (enumL k xs)[i]? = (xs[i]?).map fun x => .tup [.int ((k + i : Nat) : Int), x]
  | [], k, i => by simp [enumL]
  | x :: xs, k, 0 => by simp [enumL]
  | x :: xs, k, i + 1 => by
    rw [enumL, List.getElem?_cons_succ, eL_get xs, List.getElem?_cons_succ]
    have : k + 1 + i = k + (i + 1) := by omega
    rw [this]
theorem enumL_len : ∀ (xs : List PV) (k : Nat), (enumL k xs).length = xs.length
  | [], k => rfl
  | x :: xs, k => by rw [enumL, List.length_cons, enumL_len xs, List.length_cons]
theorem next_ok {sh : List Ln} {many sg : Nat} {prev : Option (List Bool)} {sg' : Int} (es : sg' = sg) (h0 : P[i0]? = some ⟨5, 6, csTruth⟩) (h1 : P[i1]? = some ⟨3, 6, csNext i0⟩) (hs : SheetOk many sh) (hl : sh.length ≤ 1000) (hp : ∀ p, prev = some p → p.length = sh.length)
    (q : ∀ h', Kp [] h.length h h' → Q (encR (row sh prev sg)) h') : Rr (run P fu (d + 2) i1 [encS sh, encO prev, .int sg'] h) Q := by
  subst es
  refine run_R h1 rfl ?_
  obtain ⟨I, hI⟩ : ∃ I : Nat → Sg → EH → Prop, ∀ i s h2, I i s h2 ↔ (∃ x y : Option PV, s = [some (encS sh), some (encO prev), some (.int sg), some (.ref h.length), x, y] ∧ h2[h.length]? = some (.lst ((pre sh prev sg i).map .bl)) ∧ Kp [] h.length h h2) := ⟨_, fun _ _ _ => Iff.rfl⟩
  simp [csNext]
  refine for_st (xs := enumL 0 (sh.map Ln.enc)) (h1 := h ++ [.lst []]) I rfl ((hI _ _ _).mpr ⟨none, none, rfl, by simp [pre], Kp.new (Nat.le_refl _)⟩) ?_ ?_
  · rintro i x s h2 hx hh
    obtain ⟨x1, y1, rfl, e2, k2⟩ := (hI _ _ _).mp hh
    rw [eL_get, List.getElem?_map] at hx
    obtain ⟨z, hz, rfl⟩ := Option.map_eq_some_iff.mp hx
    obtain ⟨l, hl2, rfl⟩ := Option.map_eq_some_iff.mp hz
    have hi := (List.getElem?_eq_some_iff.mp hl2).1
    simp [bindT, bindAll, k_lst e2]
    refine lineT_ok (k := i) rfl rfl h0 (hs i l hl2) e2 (pre_len i) (fun p e => by rw [hp p e]; exact hi) ?_
    rw [m_append e2 (by simp [pre_len]; omega)]
    refine (hI _ _ _).mpr ⟨_, _, rfl, ?_, k2.trans (Kp.set k2.2.1 (.inr (Nat.le_refl _)))⟩
    rw [List.getElem?_set_self (get_lt e2)]
    simp [pre, hl2]
  · rintro s h2 hh
    obtain ⟨x1, y1, rfl, e2, k2⟩ := (hI _ _ _).mp hh
    rw [enumL_len, List.length_map] at e2
    simp [b_tupR e2]
    exact q h2 k2
theorem row_len {sh : List Ln} {prev : Option (List Bool)} {sg : Nat} : (row sh prev sg).length = sh.length := pre_len _
/-- the last stand -/
def lastR (sh : List Ln) : Option (List Bool) → List Nat → Option (List Bool)
  | p, [] => p
  | p, s :: r => lastR sh (some (row sh p s)) r
theorem lastR_app {sh : List Ln} : ∀ {p : Option (List Bool)} {xs : List Nat} {s : Nat}, lastR sh p (xs ++ [s]) = some (row sh (lastR sh p xs) s)
  | p, [], s => rfl
  | p, x :: xs, s => by simp only [List.cons_append, lastR]; exact lastR_app
theorem rows_app {sh : List Ln} : ∀ {p : Option (List Bool)} {xs : List Nat} {s : Nat}, rows sh p (xs ++ [s]) = rows sh p xs ++ [row sh (lastR sh p xs) s]
  | p, [], s => rfl
  | p, x :: xs, s => by simp only [List.cons_append, rows, lastR]; rw [rows_app]
theorem rows_len {sh : List Ln} : ∀ {p : Option (List Bool)} {xs : List Nat}, (rows sh p xs).length = xs.length
  | p, [] => rfl
  | p, x :: xs => by simp [rows, rows_len]
theorem lastR_len {sh : List Ln} : ∀ {p : Option (List Bool)} {xs : List Nat}, (∀ q, p = some q → q.length = sh.length) → ∀ q, lastR sh p xs = some q → q.length = sh.length
  | p, [], hp, q, e => hp q e
  | p, x :: xs, hp, q, e => lastR_len (p := some (row sh p x)) (xs := xs) (fun q e => by cases e; exact row_len) q e
theorem from_ok {sh : List Ln} {many : Nat} {prev : Option (List Bool)} {hs : List Nat} (h0 : P[i0]? = some ⟨5, 6, csTruth⟩) (h1 : P[i1]? = some ⟨3, 6, csNext i0⟩) (h3 : P[i3]? = some ⟨3, 4, csFrom i1⟩) (ho : SheetOk many sh) (hl : sh.length ≤ 1000) (hp : ∀ p, prev = some p → p.length = sh.length)
    (q : ∀ h', Kp [] h.length h h' → Q (encO (lastR sh prev hs)) h') : Rr (run P fu (d + 3) i3 [encS sh, encO prev, encH hs] h) Q := by
  refine run_R h3 rfl ?_
  obtain ⟨I, hI⟩ : ∃ I : Nat → Sg → EH → Prop, ∀ i s h2, I i s h2 ↔ (∃ x : Option PV, s = [some (encS sh), some (encO (lastR sh prev (hs.take i))), some (encH hs), x] ∧ Kp [] h.length h h2) := ⟨_, fun _ _ _ => Iff.rfl⟩
  simp [csFrom]
  refine for_st (xs := hs.map fun (s : Nat) => .int s) (h1 := h) I rfl ((hI _ _ _).mpr ⟨none, by simp [lastR], Kp.refl (Nat.le_refl _)⟩) ?_ ?_
  · rintro i x s h2 hx hh
    obtain ⟨x1, rfl, k2⟩ := (hI _ _ _).mp hh
    rw [List.getElem?_map] at hx
    obtain ⟨z, hz, rfl⟩ := Option.map_eq_some_iff.mp hx
    simp [bindT]
    refine next_ok rfl h0 h1 ho hl (fun p e => lastR_len hp p e) fun h3 k3 => ?_
    refine (hI _ _ _).mpr ⟨some (.int z), ?_, k2.trans (k3.less k2.2.1)⟩
    have : hs.take (i + 1) = hs.take i ++ [z] := by rw [List.take_add_one, hz]; rfl
    rw [this, lastR_app]
    rfl
  · rintro s h2 hh
    obtain ⟨x1, rfl, k2⟩ := (hI _ _ _).mp hh
    simp
    exact q h2 k2
theorem truths_ok {sh : List Ln} {many : Nat} {hs : List Nat} (h0 : P[i0]? = some ⟨5, 6, csTruth⟩) (h1 : P[i1]? = some ⟨3, 6, csNext i0⟩) (h2 : P[i2]? = some ⟨2, 5, csTruths i1⟩) (ho : SheetOk many sh) (hl : sh.length ≤ 1000) (hh : hs.length ≤ 1000)
    (q : ∀ r h', h.length ≤ r → h'[r]? = some (.lst ((rows sh none hs).map encR)) → Kp [] h.length h h' → Q (.ref r) h') : Rr (run P fu (d + 3) i2 [encS sh, encH hs] h) Q := by
  refine run_R h2 rfl ?_
  obtain ⟨I, hI⟩ : ∃ I : Nat → Sg → EH → Prop, ∀ i s h2, I i s h2 ↔ (∃ x : Option PV, s = [some (encS sh), some (encH hs), some (encO (lastR sh none (hs.take i))), some (.ref h.length), x] ∧ h2[h.length]? = some (.lst ((rows sh none (hs.take i)).map encR)) ∧ Kp [] h.length h h2) := ⟨_, fun _ _ _ => Iff.rfl⟩
  simp [csTruths, bindAll]
  refine for_st (xs := hs.map fun (s : Nat) => .int s) (h1 := h ++ [.lst []]) I rfl ((hI _ _ _).mpr ⟨none, by simp [lastR, encO], by simp [rows], Kp.new (Nat.le_refl _)⟩) ?_ ?_
  · rintro i x s h2 hx hj
    obtain ⟨x1, rfl, e2, k2⟩ := (hI _ _ _).mp hj
    rw [List.getElem?_map] at hx
    obtain ⟨z, hz, rfl⟩ := Option.map_eq_some_iff.mp hx
    have hi := (List.getElem?_eq_some_iff.mp hz).1
    simp [bindT]
    refine next_ok rfl h0 h1 ho hl (fun p e => lastR_len (fun q e => by cases e) p e) fun h3 k3 => ?_
    have e3 : h3[h.length]? = some (.lst ((rows sh none (hs.take i)).map encR)) := k3.get e2 (get_lt e2) (by simp)
    have tk : hs.take (i + 1) = hs.take i ++ [z] := by rw [List.take_add_one, hz]; rfl
    refine ⟨k_lst e3 (.inl rfl), ?_⟩
    rw [m_append e3 (by simp [rows_len]; omega)]
    have k4 := k2.trans (k3.less k2.2.1)
    refine (hI _ _ _).mpr ⟨some (.int z), ?_, ?_, k4.trans (Kp.set k4.2.1 (.inr (Nat.le_refl _)))⟩
    · rw [tk, lastR_app]
      rfl
    · rw [List.getElem?_set_self (get_lt e3), tk, rows_app]
      simp
  · rintro s h2 hj
    obtain ⟨x1, rfl, e2, k2⟩ := (hI _ _ _).mp hj
    simp
    refine q h.length h2 (Nat.le_refl _) ?_ k2
    simpa using e2
end
end EV

set_option Elab.async false
set_option linter.all false
set_option maxRecDepth 100000
set_option maxHeartbeats 4000000
/-! EV24: the truths of lines, column by column (the law's way), are the same. -/
namespace EV
open PySem PySem.Spec
/-- the truth of the line k at the moment m -/
def V (sh : List Ln) (hs : List Nat) (k m : Nat) : Bool := ((rows sh none hs).getD m []).getD k false
def col (sh : List Ln) (hs : List Nat) (k : Nat) : List Bool := (List.range hs.length).map (V sh hs k)
section
variable {sh : List Ln} {hs : List Nat} {many k m sg : Nat} {prev : Option (List Bool)}
theorem pre_get : ∀ {j i : Nat}, i < j → (pre sh prev sg j).getD i false = lt (sh.getD i (.sign 0)) i prev (pre sh prev sg i) sg
  | j + 1, i, hi => by
    rw [pre, List.getD_eq_getElem?_getD]
    by_cases c : i < j
    · rw [List.getElem?_append_left (by rw [pre_len]; exact c), ← List.getD_eq_getElem?_getD]
      exact pre_get c
    · have : i = j := by omega
      subst this
      rw [List.getElem?_append_right (by rw [pre_len]; exact Nat.le_refl _), pre_len]
      simp
theorem lt_same {l : Ln} {x y : List Bool} (ok : l.ok many k) (e : ∀ i < k, x.getD i false = y.getD i false) : lt l k prev x sg = lt l k prev y sg := by
  obtain ⟨ok, _⟩ := ok
  cases l with
  | sign a => rfl
  | not i => simp only [lt, e i (ok i (by simp [Ln.at]))]
  | and i j => simp only [lt, e i (ok i (by simp [Ln.at])), e j (ok j (by simp [Ln.at]))]
  | or i j => simp only [lt, e i (ok i (by simp [Ln.at])), e j (ok j (by simp [Ln.at]))]
  | before i => rfl
  | since i j => simp only [lt, e i (ok i (by simp [Ln.at])), e j (ok j (by simp [Ln.at]))]
theorem row_get (ok : SheetOk many sh) {l : Ln} (hl : sh[k]? = some l) : (row sh prev sg).getD k false = lt l k prev (row sh prev sg) sg := by
  have hk := (List.getElem?_eq_some_iff.mp hl).1
  unfold row
  rw [pre_get hk]
  have : sh.getD k (.sign 0) = l := by rw [List.getD_eq_getElem?_getD, hl]; rfl
  rw [this]
  refine lt_same (ok k l hl) fun i hi => ?_
  rw [pre_get hi, pre_get (show i < sh.length by omega)]
theorem rows_get : ∀ {p : Option (List Bool)} {hs : List Nat} {m s : Nat}, hs[m]? = some s → (rows sh p hs)[m]? = some (row sh (if m = 0 then p else (rows sh p hs)[m - 1]?) s)
  | p, x :: hs, 0, s, e => by cases e; rfl
  | p, x :: hs, m + 1, s, e => by
    have e : hs[m]? = some s := by simpa using e
    rw [rows, List.getElem?_cons_succ, rows_get e]
    congr 2
    cases m with
    | zero => rfl
    | succ m => rfl
theorem V_eq (ok : SheetOk many sh) {l : Ln} {s : Nat} (hl : sh[k]? = some l) (hm : hs[m]? = some s) : V sh hs k m = match l with
    | .sign a => decide (a = s)
    | .not i => !(V sh hs i m)
    | .and i j => V sh hs i m && V sh hs j m
    | .or i j => V sh hs i m || V sh hs j m
    | .before i => decide (0 < m) && V sh hs i (m - 1)
    | .since i j => V sh hs j m || (V sh hs i m && (decide (0 < m) && V sh hs k (m - 1))) := by
  have e := rows_get (sh := sh) (p := none) hm
  have hV : ∀ i, V sh hs i m = (row sh (if m = 0 then none else (rows sh none hs)[m - 1]?) s).getD i false := fun i => by
    unfold V
    rw [List.getD_eq_getElem?_getD (l := rows sh none hs), e]; rfl
  rw [hV, row_get ok hl]
  have hprev : ∀ i, (match (if m = 0 then none else (rows sh none hs)[m - 1]? : Option (List Bool)) with
      | none => false
      | some p => p.getD i false) = (decide (0 < m) && V sh hs i (m - 1)) := fun i => by
    by_cases c : m = 0
    · subst c; simp
    · have hlt : m < hs.length := (List.getElem?_eq_some_iff.mp hm).1
      have : (rows sh none hs)[m - 1]? = some ((rows sh none hs)[m - 1]'(by rw [rows_len]; omega)) := List.getElem?_eq_getElem _
      rw [if_neg c, this]
      unfold V
      rw [List.getD_eq_getElem?_getD (l := rows sh none hs), this]
      simp [Nat.pos_of_ne_zero c]
  cases l with
  | sign a => rfl
  | not i => simp only [lt, hV]
  | and i j => simp only [lt, hV]
  | or i j => simp only [lt, hV]
  | before i =>
    simp only [lt]
    exact hprev i
  | since i j =>
    simp only [lt]
    rw [hV, hV]
    congr 2
    exact hprev k
theorem col_len : (col sh hs k).length = hs.length := by simp [col]
theorem col_get (hm : m < hs.length) : (col sh hs k).getD m false = V sh hs k m := by
  rw [List.getD_eq_getElem?_getD]
  simp [col, hm]
theorem rows_col (R : rows sh none hs = rows sh none hs) : rows sh none hs = (List.range hs.length).map fun m => (List.range sh.length).map fun k => V sh hs k m := by
  refine List.ext_getElem? fun m => ?_
  by_cases c : m < hs.length
  · have e := rows_get (sh := sh) (p := none) (List.getElem?_eq_getElem c)
    rw [e, List.getElem?_map, List.getElem?_range c]
    simp only [Option.map_some, Option.some.injEq]
    refine List.ext_getElem? fun k => ?_
    by_cases c2 : k < sh.length
    · rw [List.getElem?_map, List.getElem?_range c2]
      simp only [Option.map_some]
      unfold V
      rw [List.getD_eq_getElem?_getD (l := rows sh none hs), e]
      simp only [Option.getD_some]
      rw [List.getD_eq_getElem?_getD, List.getElem?_eq_getElem (by rw [row_len]; exact c2)]
      simp
    · rw [List.getElem?_eq_none (by rw [row_len]; omega), List.getElem?_eq_none (by simp; omega)]
  · rw [List.getElem?_eq_none (by rw [rows_len]; omega), List.getElem?_eq_none (by simp; omega)]
end
end EV

set_option Elab.async false
set_option linter.all false
set_option maxRecDepth 100000
set_option maxHeartbeats 4000000
/-! EV25: the law's columns, as they are run. -/
namespace EV
open PySem PySem.Spec
section
variable {F : Ca} {fu : Nat} {s : Sg} {h : EH} {c e : CE} {Qs : List PV → EH → Prop} {t : Tg}
/-- a comprehension that changes nothing -/
theorem Cp_pure {xs : List PV} (f : PV → PV) (hl : xs.length ≤ 16777216) (step : ∀ x ∈ xs, R (bindT t x s) fun s2 => E F fu e s2 h fun y h2 => y = f x ∧ h2 = h) (q : Qs (xs.map f) h) : Cp F fu e t (.lit (.bl true)) s (.st xs) h Qs := by
  refine Cp_st (fun i acc h2 => h2 = h ∧ acc = (xs.take i).map f) ⟨rfl, rfl⟩ ?_ ?_
  · rintro i acc x h2 hx ⟨rfl, rfl⟩
    have hi := (List.getElem?_eq_some_iff.mp hx).1
    refine (step x (List.mem_of_getElem? hx)).mono fun s2 q => ?_
    simp
    refine q.mono fun y h3 ⟨e1, e2⟩ => ?_
    subst e1 e2
    refine ⟨by have := Nat.min_le_right i xs.length; omega, rfl, ?_⟩
    simp [List.take_add_one, hx]
  · rintro acc h2 ⟨rfl, rfl⟩
    rw [List.take_length]
    exact q
theorem Cp_pureJ {xs : List PV} {r : Nat} (f : PV → PV) (e1 : h[r]? = some (.lst xs)) (hl : xs.length < fu) (hl2 : xs.length ≤ 16777216) (step : ∀ x ∈ xs, R (bindT t x s) fun s2 => E F fu e s2 h fun y h2 => y = f x ∧ h2 = h) (q : Qs (xs.map f) h) : Cp F fu e t (.lit (.bl true)) s (.dy r) h Qs := by
  refine Cp_J (fun i acc h2 => h2 = h ∧ i ≤ xs.length ∧ acc = (xs.take i).map f) (B := xs.length) (fun _ => by simp) hl ⟨rfl, Nat.zero_le _, rfl⟩ ?_
  rintro i acc h2 ⟨rfl, hi, rfl⟩
  refine ⟨hi, xs[i]?, by simp only [item, e1], ?_⟩
  cases hx : xs[i]? with
  | none =>
    have : i = xs.length := by
      have := List.getElem?_eq_none_iff.mp hx
      omega
    subst this
    show Qs _ _
    rw [List.take_length]
    exact q
  | some x =>
    have hi2 := (List.getElem?_eq_some_iff.mp hx).1
    refine (step x (List.mem_of_getElem? hx)).mono fun s2 q => ?_
    simp
    refine q.mono fun y h3 ⟨e2, e3⟩ => ?_
    subst e2 e3
    refine ⟨by have := Nat.min_le_right i xs.length; omega, rfl, hi2, ?_⟩
    simp [List.take_add_one, hx]
end
def csColB : CSs := (.cons (.asg (.nm 11) (.var 10))
 (.cons (.whl (.and (.cmp .eq (.idx (.var 3) (.lit (.int 0))) (.lit (.str (wS .since)))) (.and (.cmp .gt (.var 11) (.lit (.int 0))) (.and (.idx (.var 6) (.var 11)) (.nt (.idx (.var 8) (.var 11))))))
 (.cons (.asg (.nm 11) (.bin .sub (.var 11) (.lit (.int 1))))
 .nil))
 (.cons (.expr (.meth .append (.var 9) (.cons (.ife (.cmp .eq (.idx (.var 3) (.lit (.int 0))) (.lit (.str (wS .since)))) (.idx (.var 8) (.var 11)) (.cmp .notIn (.lit (.bl false)) (.lst (.cons (.idx (.var 6) (.var 11)) (.cons (.idx (.var 8) (.var 11)) .nil))))) .nil)))
 (.cons (.ifs (.cmp .eq (.idx (.var 3) (.lit (.int 0))) (.lit (.str (wS .or))))
 (.cons (.asg (.sub (.var 9) (.neg (.lit (.int 1)))) (.cmp .isIn (.lit (.bl true)) (.lst (.cons (.idx (.var 6) (.var 11)) (.cons (.idx (.var 8) (.var 11)) .nil)))))
 .nil)
 .nil)
 .nil))))
def csColU : CSs := (.cons (.par [8, 9] (.cons (.idx (.var 1) (.idx (.var 3) (.lit (.int 2)))) (.cons (.lst .nil) .nil)))
 (.cons (.frr (.nm 10) (.rng (.cons (.var 4) .nil)) csColB)
 (.cons (.ret (.var 9))
 .nil)))
def csColT : CSs := (.cons (.asg (.nm 6) (.idx (.var 1) (.idx (.var 3) (.lit (.int 1)))))
 (.cons (.ifs (.cmp .eq (.idx (.var 3) (.lit (.int 0))) (.lit (.str (wS .not))))
 (.cons (.ret (.comp (.nt (.var 7)) (.nm 7) (.val (.var 6)) (.lit (.bl true)) [7]))
 .nil)
 .nil)
 (.cons (.ifs (.cmp .eq (.idx (.var 3) (.lit (.int 0))) (.lit (.str (wS .before))))
 (.cons (.ret (.slc false true (.bin .add (.lst (.cons (.lit (.bl false)) .nil)) (.var 6)) (.lit .non) (.var 4)))
 .nil)
 .nil)
 csColU)))
def csColumn : CSs := (.cons (.asg (.tp [3, 4]) (.tup (.cons (.idx (.var 0) (.bi .len (.cons (.var 1) .nil))) (.cons (.bi .len (.cons (.var 2) .nil)) .nil))))
 (.cons (.ifs (.cmp .eq (.idx (.var 3) (.lit (.int 0))) (.lit (.str (wS .sign))))
 (.cons (.ret (.comp (.cmp .eq (.var 5) (.idx (.var 3) (.lit (.int 1)))) (.nm 5) (.val (.var 2)) (.lit (.bl true)) [5]))
 .nil)
 .nil)
 csColT))
section
variable {P : List Fn} {fu d ic : Nat} {h : EH} {Q : PV → EH → Prop} {sh : List Ln} {hs : List Nat} {many k m : Nat}
theorem in_bls {a b : Bool} {x : Bool} {r : Nat} (e : h[r]? = some (.lst [.bl a, .bl b])) : isIn h (.bl x) (.ref r) = some (decide (a = x) || decide (b = x)) := by
  simp only [isIn, e]
  cases a <;> cases b <;> cases x <;> rfl
theorem c_inB {Qb : Bool → Prop} {a b : Bool} {x : Bool} {r : Nat} (e : h[r]? = some (.lst [.bl a, .bl b])) : R (opC .isIn (.bl x) (.ref r) h) Qb ↔ Qb (decide (a = x) || decide (b = x)) := by simp only [opC, in_bls e, R_some]
theorem c_notInB {Qb : Bool → Prop} {a b : Bool} {x : Bool} {r : Nat} (e : h[r]? = some (.lst [.bl a, .bl b])) : R (opC .notIn (.bl x) (.ref r) h) Qb ↔ Qb (!(decide (a = x) || decide (b = x))) := by simp only [opC, in_bls e, Option.map_some, R_some]
theorem x_setLast {n : Nat} {xs : List PV} {y v : PV} (e : h[n]? = some (.lst (xs ++ [y]))) : setIx (.ref n) (.int (-1)) v h = some (h.set n (.lst (xs ++ [v]))) := by
  have hs : (xs ++ [y]).set xs.length v = xs ++ [v] := by
    rw [List.set_append_right _ _ (Nat.le_refl _)]
    simp
  simp only [setIx, e]
  rw [if_pos (by omega), if_pos (by simp; omega)]
  have : (-1 + (((xs ++ [y]).length : Nat) : Int)).toNat = xs.length := by simp; omega
  rw [this, hs]
/-- one turn of the loop -/
theorem colB_ok {F : Ca} {l : Ln} {i j r1 r2 L : Nat} {cl : Nat} {s5 s7 s11 : Option PV} {D : Fl → Sg → EH → Prop} (ok : SheetOk many sh) (hl : sh[k]? = some l) (hb : l = .and i j ∨ l = .or i j ∨ l = .since i j) (hm : m < hs.length) (hh : hs.length ≤ 1000) (hfu : 2000 < fu)
    (e1 : h[r1]? = some (.lst ((col sh hs i).map .bl))) (e2 : h[r2]? = some (.lst ((col sh hs j).map .bl))) (e3 : h[L]? = some (.lst (((List.range m).map (V sh hs k)).map .bl))) (n1 : r1 ≠ L) (n2 : r2 ≠ L)
    (q : ∀ h' y, h'[L]? = some (.lst (((List.range (m + 1)).map (V sh hs k)).map .bl)) → h.length ≤ h'.length → (∀ x < h.length, x ≠ L → h'[x]? = h[x]?) → D .nx [some (encS sh), some (.ref cl), some (encH hs), some l.enc, some (.int hs.length), s5, some (.ref r1), s7, some (.ref r2), some (.ref L), some (.int m), some y] h') :
    Ss F fu csColB [some (encS sh), some (.ref cl), some (encH hs), some l.enc, some (.int hs.length), s5, some (.ref r1), s7, some (.ref r2), some (.ref L), some (.int m), s11] h D := by
  obtain ⟨s, hsm⟩ : ∃ s, hs[m]? = some s := ⟨_, List.getElem?_eq_getElem hm⟩
  have ix1 : ∀ {h'} {a : Nat}, h'[r1]? = some (.lst ((col sh hs i).map .bl)) → a < hs.length → opIx (.ref r1) (.int (a : Int)) h' = some (.bl (V sh hs i a)) := fun {h' a} e ha => by
    rw [x_lst e, seqAt_bl (by rw [col_len]; exact ha), col_get ha]
  have ix2 : ∀ {h'} {a : Nat}, h'[r2]? = some (.lst ((col sh hs j).map .bl)) → a < hs.length → opIx (.ref r2) (.int (a : Int)) h' = some (.bl (V sh hs j a)) := fun {h' a} e ha => by
    rw [x_lst e, seqAt_bl (by rw [col_len]; exact ha), col_get ha]
  have hL := get_lt e3
  have rng : ((List.range (m + 1)).map (V sh hs k)).map PV.bl = ((List.range m).map (V sh hs k)).map PV.bl ++ [.bl (V sh hs k m)] := by
    rw [List.range_succ]; simp
  rcases hb with rfl | rfl | rfl
  · -- and
    have hV : V sh hs k m = (V sh hs i m && V sh hs j m) := V_eq ok hl hsm
    simp only [csColB, Ss_cons]
    simp
    refine S_whl (I := fun n s h2 => n = 0 ∧ h2 = h ∧ s = [some (encS sh), some (.ref cl), some (encH hs), some (Ln.enc (.and i j)), some (.int hs.length), s5, some (.ref r1), s7, some (.ref r2), some (.ref L), some (.int m), some (.int m)]) (n := 0) (by omega) ⟨rfl, rfl, rfl⟩ ?_
    rintro n s h2 ⟨rfl, rfl, rfl⟩
    have en := @get_new h2 (.lst [.bl (V sh hs i m), .bl (V sh hs j m)])
    have eL : (h2 ++ [EO.lst [.bl (V sh hs i m), .bl (V sh hs j m)]])[L]? = some (.lst (((List.range m).map (V sh hs k)).map .bl)) := by rw [List.getElem?_append_left hL]; exact e3
    simp [Ln.enc, Ln.wd, Ln.args, sq0, sq1, ix1 e1 hm, ix2 e2 hm, k_lst e3, c_notInB en]
    rw [m_append (xs := ((List.range m).map (V sh hs k)).map .bl) eL (by simp; omega)]
    refine q _ _ ?_ (by simp) fun x hx hxL => ?_
    · rw [List.getElem?_set_self (by simp; omega), rng, hV]
    · rw [List.getElem?_set_ne (Ne.symm hxL), List.getElem?_append_left hx]
  · -- or
    have hV : V sh hs k m = (V sh hs i m || V sh hs j m) := V_eq ok hl hsm
    simp only [csColB, Ss_cons]
    simp
    refine S_whl (I := fun n s h2 => n = 0 ∧ h2 = h ∧ s = [some (encS sh), some (.ref cl), some (encH hs), some (Ln.enc (.or i j)), some (.int hs.length), s5, some (.ref r1), s7, some (.ref r2), some (.ref L), some (.int m), some (.int m)]) (n := 0) (by omega) ⟨rfl, rfl, rfl⟩ ?_
    rintro n s h2 ⟨rfl, rfl, rfl⟩
    have en := @get_new h2 (.lst [.bl (V sh hs i m), .bl (V sh hs j m)])
    have eL : (h2 ++ [EO.lst [.bl (V sh hs i m), .bl (V sh hs j m)]])[L]? = some (.lst (((List.range m).map (V sh hs k)).map .bl)) := by rw [List.getElem?_append_left hL]; exact e3
    simp [Ln.enc, Ln.wd, Ln.args, sq0, sq1, ix1 e1 hm, ix2 e2 hm, k_lst e3, c_notInB en]
    rw [m_append (xs := ((List.range m).map (V sh hs k)).map .bl) eL (by simp; omega)]
    generalize h3e : List.set (h2 ++ [EO.lst [.bl (V sh hs i m), .bl (V sh hs j m)]]) L (.lst (((List.range m).map (V sh hs k)).map .bl ++ [PV.bl (V sh hs i m && V sh hs j m)])) = h3
    have l3 : h2.length ≤ h3.length := by rw [← h3e]; simp
    have g3 : ∀ x < h2.length, x ≠ L → h3[x]? = h2[x]? := fun x hx hxL => by rw [← h3e, List.getElem?_set_ne (Ne.symm hxL), List.getElem?_append_left hx]
    have eL3 : h3[L]? = some (.lst (((List.range m).map (V sh hs k)).map .bl ++ [PV.bl (V sh hs i m && V sh hs j m)])) := by rw [← h3e, List.getElem?_set_self (by simp; omega)]
    have f1 : h3[r1]? = some (.lst ((col sh hs i).map .bl)) := (g3 r1 (get_lt e1) n1).trans e1
    have f2 : h3[r2]? = some (.lst ((col sh hs j).map .bl)) := (g3 r2 (get_lt e2) n2).trans e2
    have en3 := @get_new h3 (.lst [.bl (V sh hs i m), .bl (V sh hs j m)])
    have eL4 : (h3 ++ [EO.lst [.bl (V sh hs i m), .bl (V sh hs j m)]])[L]? = some (.lst (((List.range m).map (V sh hs k)).map .bl ++ [PV.bl (V sh hs i m && V sh hs j m)])) := by rw [List.getElem?_append_left (by omega)]; exact eL3
    simp only [ix1 f1 hm, ix2 f2 hm, R_some, c_inB en3, x_setLast eL4]
    refine q _ _ ?_ (by simp; omega) fun x hx hxL => ?_
    · rw [List.getElem?_set_self (by simp; omega), rng, hV]
      cases V sh hs i m <;> cases V sh hs j m <;> rfl
    · rw [List.getElem?_set_ne (Ne.symm hxL), List.getElem?_append_left (by omega)]
      exact g3 x hx hxL
  · -- since
    simp only [csColB, Ss_cons]
    simp
    refine S_whl (I := fun n s h2 => n ≤ m ∧ V sh hs k n = V sh hs k m ∧ h2 = h ∧ s = [some (encS sh), some (.ref cl), some (encH hs), some (Ln.enc (.since i j)), some (.int hs.length), s5, some (.ref r1), s7, some (.ref r2), some (.ref L), some (.int m), some (.int n)]) (n := m) (by omega) ⟨Nat.le_refl _, rfl, rfl, rfl⟩ ?_
    rintro n s h2 ⟨hn, hVn, rfl, rfl⟩
    obtain ⟨sn, hsn⟩ : ∃ s, hs[n]? = some s := ⟨_, List.getElem?_eq_getElem (show n < hs.length by omega)⟩
    have hV2 : V sh hs k n = (V sh hs j n || (V sh hs i n && (decide (0 < n) && V sh hs k (n - 1)))) := V_eq ok hl hsn
    have hn2 : n < hs.length := by omega
    simp [Ln.enc, Ln.wd, Ln.args, sq0, sq1, ix1 e1 hn2, ix2 e2 hn2, k_lst e3, m_append e3 (show (((List.range m).map (V sh hs k)).map PV.bl).length < sizeLine by simp; omega)]
    have done : V sh hs k m = V sh hs j n → D .nx [some (encS sh), some (.ref cl), some (encH hs), some (.tup [.str (wS .since), .int i, .int j]), some (.int hs.length), s5, some (.ref r1), s7, some (.ref r2), some (.ref L), some (.int m), some (.int n)] (List.set h2 L (.lst (List.map (PV.bl ∘ V sh hs k) (List.range m) ++ [.bl (V sh hs j n)]))) := fun e => by
      refine q _ _ ?_ (by simp) fun x hx hxL => ?_
      · rw [List.getElem?_set_self hL, rng, e]
        simp
      · rw [List.getElem?_set_ne (Ne.symm hxL)]
    by_cases c0 : 0 < n
    · simp only [if_pos c0]
      cases c1 : V sh hs i n with
      | false =>
        simp
        refine done ?_
        rw [← hVn, hV2, c1]
        simp
      | true =>
        cases c2 : V sh hs j n with
        | true =>
          simp
          rw [c2] at done
          refine done ?_
          rw [← hVn, hV2, c2]
          simp
        | false =>
          simp
          refine ⟨c0, ?_⟩
          show turn _ _ _ _ _
          refine ⟨by omega, ?_, rfl, ?_⟩
          · rw [← hVn, hV2, c1, c2]
            simp [c0]
          · simp [Ln.enc, Ln.wd, Ln.args]
            omega
    · simp only [if_neg c0]
      refine done ?_
      rw [← hVn, hV2]
      simp [c0]
theorem rng0 {F : Ca} {fu i : Nat} {j : Int} {s : Sg} {h : EH} (e : s[i]? = some (some (.int j))) (h1 : j ≤ 1000000000 ∧ 0 ≤ j) : evI F fu (.rng (.cons (.var i) .nil)) s h = some (.st (rangeL 0 1 j.toNat), h) := by
  simp only [evI, evs, ev, e, range1 (small_of (by omega) h1.1)]
theorem cut_take {xs : List PV} {n : Nat} : cutP xs none (some (n : Int)) = xs.take n := by
  unfold cutP
  rw [HT.sIx_none, HT.sIx_nat, List.drop_zero, Nat.sub_zero]
  by_cases c : n ≤ xs.length
  · rw [Nat.min_eq_left c]
  · rw [Nat.min_eq_right (by omega), List.take_length, List.take_of_length_le (by omega)]
theorem itrH {h : EH} {hs : List Nat} {Qi : Itr → EH → Prop} : itrOf h (encH hs) Qi = Qi (.st (hs.map fun (s : Nat) => .int s)) h := rfl
theorem b_lenH {hs : List Nat} : Rr (opBi .len [encH hs] h) Q ↔ Q (.int hs.length) h := by
  unfold encH
  rw [b_lenT, List.length_map]
theorem col_ext {f : Nat → Bool} (e : ∀ m < hs.length, V sh hs k m = f m) : col sh hs k = (List.range hs.length).map f := by
  unfold col
  refine List.map_congr_left fun m hm => e m (List.mem_range.mp hm)
/-- a column -/
theorem column_ok {cl : Nat} {rs : List Nat} (hP : P[ic]? = some ⟨3, 12, csColumn⟩) (ok : SheetOk many sh) (hk : k < sh.length) (hl : sh.length ≤ 1000) (hh : hs.length ≤ 1000) (hfu : 2000 < fu) (hc : h[cl]? = some (.lst (rs.map .ref))) (hr : rs.length = k) (hx : ∀ (i r : Nat), rs[i]? = some r → h[r]? = some (.lst ((col sh hs i).map .bl)))
    (q : ∀ (r : Nat) (h' : EH), h.length ≤ r → h'[r]? = some (.lst ((col sh hs k).map .bl)) → Kp [] h.length h h' → Q (.ref r) h') : Rr (run P fu (d + 1) ic [encS sh, .ref cl, encH hs] h) Q := by
  refine run_R hP rfl ?_
  obtain ⟨l, hl2⟩ : ∃ l, sh[k]? = some l := ⟨_, List.getElem?_eq_getElem hk⟩
  have e0 : opIx (encS sh) (.int (rs.length : Nat)) h = some l.enc := by
    rw [hr]
    unfold encS
    rw [x_tup, seqAt_nat, List.getElem?_map, hl2]; rfl
  have refI : ∀ i, i < k → ∃ r, opIx (.ref cl) (.int (i : Nat)) h = some (.ref r) ∧ h[r]? = some (.lst ((col sh hs i).map .bl)) := fun i hi => by
    have e : rs[i]? = some (rs[i]'(by omega)) := List.getElem?_eq_getElem _
    exact ⟨_, by rw [x_lst hc, seqAt_nat, List.getElem?_map, e]; rfl, hx i _ e⟩
  have okl := (ok k l hl2).1
  have nw : ∀ o, Kp [] h.length h (h ++ [o]) := fun o => Kp.new (Nat.le_refl _)
  have two : ∀ i j, (l = .and i j ∨ l = .or i j ∨ l = .since i j) → Ss (run P fu d) fu csColT [some (encS sh), some (.ref cl), some (encH hs), some l.enc, some (.int hs.length), none, none, none, none, none, none, none] h (retQ Q) := fun i j hb => by
    have hi : i < k := okl i (by rcases hb with rfl | rfl | rfl <;> simp [Ln.at])
    have hj : j < k := okl j (by rcases hb with rfl | rfl | rfl <;> simp [Ln.at])
    obtain ⟨r1, f1, g1⟩ := refI i hi
    obtain ⟨r2, f2, g2⟩ := refI j hj
    have q1 : opIx l.enc (.int 1) h = some (.int i) := by rcases hb with rfl | rfl | rfl <;> rfl
    have q2 : opIx l.enc (.int 2) h = some (.int j) := by rcases hb with rfl | rfl | rfl <;> rfl
    have q0 : ∃ w, opIx l.enc (.int 0) h = some (.str (wS w)) ∧ w ≠ .not ∧ w ≠ .before := by
      rcases hb with rfl | rfl | rfl
      · exact ⟨.and, rfl, by decide, by decide⟩
      · exact ⟨.or, rfl, by decide, by decide⟩
      · exact ⟨.since, rfl, by decide, by decide⟩
    obtain ⟨w, q0, w1, w2⟩ := q0
    have u : Ss (run P fu d) fu csColU [some (encS sh), some (.ref cl), some (encH hs), some l.enc, some (.int hs.length), none, some (.ref r1), none, none, none, none, none] h (retQ Q) := by
      simp only [csColU, Ss_cons]
      simp [q2, f2, bindAll]
      obtain ⟨I, hI⟩ : ∃ I : Nat → Sg → EH → Prop, ∀ i s h2, I i s h2 ↔ (∃ x y : Option PV, s = [some (encS sh), some (.ref cl), some (encH hs), some l.enc, some (.int hs.length), none, some (.ref r1), none, some (.ref r2), some (.ref h.length), x, y] ∧ h2[h.length]? = some (.lst (((List.range i).map (V sh hs k)).map .bl)) ∧ Kp [] h.length h h2) := ⟨_, fun _ _ _ => Iff.rfl⟩
      refine for_st (xs := rangeL 0 1 ((hs.length : Nat) : Int).toNat) (h1 := h ++ [.lst []]) I ?_ ((hI _ _ _).mpr ⟨none, none, rfl, by simp, nw _⟩) ?_ ?_
      · exact rng0 rfl (by omega)
      · rintro i2 x s h2 hx2 hj2
        obtain ⟨x1, y1, rfl, e2, k2⟩ := (hI _ _ _).mp hj2
        rw [rL_get] at hx2
        split at hx2 <;> cases hx2
        rename_i hlt
        have hm : i2 < hs.length := by omega
        simp [bindT]
        have g1' := k2.get g1 (get_lt g1) (by simp)
        have g2' := k2.get g2 (get_lt g2) (by simp)
        refine colB_ok (m := i2) (L := h.length) ok hl2 hb hm hh hfu g1' g2' e2 (by have := get_lt g1; omega) (by have := get_lt g2; omega) fun h3 y e3 le3 k3 => ?_
        refine (hI _ _ _).mpr ⟨_, _, rfl, e3, k2.trans ⟨k2.2.1, le3, fun m hm _ => k3 m (by have := k2.2.1; omega) (by omega)⟩⟩
      · rintro s h2 hj2
        obtain ⟨x1, y1, rfl, e2, k2⟩ := (hI _ _ _).mp hj2
        rw [rangeL_len] at e2
        simp
        exact q h.length h2 (Nat.le_refl _) e2 k2
    simp [csColT, q1, f1, q0, w1, w2]
    exact u
  cases l with
  | sign a =>
    simp [csColumn, b_lenR hc, e0, b_lenH, bindAll]
    simp [Ln.enc, Ln.wd, Ln.args, sq0, sq1, wipeE, itrH]
    refine Cp_pure (fun x => match x with
      | .int s => .bl (decide (s = (a : Int)))
      | _ => .non) (by simp; omega) (fun x hx => ?_) ?_
    · obtain ⟨s, _, rfl⟩ := List.mem_map.mp hx
      simp [bindT, sq1]
    · refine q h.length _ (Nat.le_refl _) ?_ (nw _)
      rw [get_new, List.map_map]
      congr 2
      refine List.ext_getElem? fun m => ?_
      by_cases c : m < hs.length
      · have hm : hs[m]? = some hs[m] := List.getElem?_eq_getElem c
        have hV : V sh hs k m = decide (a = hs[m]) := V_eq ok hl2 hm
        have hd : decide (((hs[m] : Nat) : Int) = (a : Int)) = decide (a = hs[m]) := decide_eq_decide.mpr (by omega)
        simp [col, c, hV]
        omega
      · rw [List.getElem?_eq_none (by simp; omega), List.getElem?_eq_none (by simp [col_len]; omega)]
  | not i =>
    obtain ⟨r1, f1, g1⟩ := refI i (okl i (by simp [Ln.at]))
    simp [csColumn, b_lenR hc, e0, b_lenH, bindAll]
    simp [csColT, Ln.enc, Ln.wd, Ln.args, sq0, sq1, wipeE, f1, itrOf, g1]
    refine Cp_pureJ (xs := (col sh hs i).map .bl) (fun x => match x with
      | .bl b => .bl (!b)
      | _ => .non) (by simpa using g1) (by simp [col_len]; omega) (by simp [col_len]; omega) (fun x hx => ?_) ?_
    · obtain ⟨s, _, rfl⟩ := List.mem_map.mp hx
      simp [bindT]
    · refine q h.length _ (Nat.le_refl _) ?_ (nw _)
      rw [get_new]
      have : col sh hs k = (List.range hs.length).map fun m => !(V sh hs i m) := col_ext fun m hm => V_eq ok hl2 (List.getElem?_eq_getElem hm)
      rw [this]
      simp [col]
  | before i =>
    obtain ⟨r1, f1, g1⟩ := refI i (okl i (by simp [Ln.at]))
    have e1 : (h ++ [EO.lst [PV.bl false]])[r1]? = some (.lst ((col sh hs i).map .bl)) := by rw [List.getElem?_append_left (get_lt g1)]; exact g1
    have add : Rr (opB .add (.ref h.length) (.ref r1) (h ++ [EO.lst [PV.bl false]])) fun v h2 => v = .ref (h ++ [EO.lst [PV.bl false]]).length ∧ h2 = h ++ [EO.lst [PV.bl false]] ++ [.lst ([PV.bl false] ++ (col sh hs i).map .bl)] := by
      simp only [opB, get_new, e1]
      rw [Rr_newL]
      exact ⟨by simp [col_len]; omega, rfl, rfl⟩
    simp [csColumn, b_lenR hc, e0, b_lenH, bindAll]
    simp [csColT, Ln.enc, Ln.wd, Ln.args, sq0, sq1, f1]
    refine add.mono fun v h2 ⟨ev, eh⟩ => ?_
    subst ev eh
    simp only [partOf, R_some, opSl, get_new, Rr_new, cut_take]
    have hV : ∀ m < hs.length, V sh hs k m = (decide (0 < m) && V sh hs i (m - 1)) := fun m hm => V_eq ok hl2 (List.getElem?_eq_getElem hm)
    have tk : ([PV.bl false] ++ (col sh hs i).map PV.bl).take hs.length = (col sh hs k).map PV.bl := by
      refine List.ext_getElem? fun m => ?_
      by_cases c : m < hs.length
      · rw [List.getElem?_take_of_lt c, List.getElem?_map]
        have e : (col sh hs k)[m]? = some (V sh hs k m) := by simp [col, c]
        rw [e, hV m c]
        cases m with
        | zero => rfl
        | succ m => simp [col, show m < hs.length by omega]
      · rw [List.getElem?_eq_none (by simp [col_len]; omega), List.getElem?_eq_none (by simp [col_len]; omega)]
    refine q _ _ ?_ (by rw [get_new, tk]) ?_
    · simp
    · exact ((nw _).trans (Kp.new (by simp))).trans (Kp.new (by simp))
  | and i j =>
    simp [csColumn, b_lenR hc, e0, b_lenH, bindAll]
    exact ⟨_, rfl, by simpa [Ln.wd] using two i j (.inl rfl)⟩
  | or i j =>
    simp [csColumn, b_lenR hc, e0, b_lenH, bindAll]
    exact ⟨_, rfl, by simpa [Ln.wd] using two i j (.inr (.inl rfl))⟩
  | since i j =>
    simp [csColumn, b_lenR hc, e0, b_lenH, bindAll]
    exact ⟨_, rfl, by simpa [Ln.wd] using two i j (.inr (.inr rfl))⟩
end
end EV

set_option Elab.async false
set_option linter.all false
set_option maxRecDepth 100000
set_option maxHeartbeats 4000000
/-! EV26: the law's rows; histories that are drawn. -/
namespace EV
open PySem PySem.Spec
def csRows (ic : Nat) : CSs := (.cons (.asg (.nm 2) (.lst .nil))
 (.cons (.frr (.nm 3) (.val (.var 0))
 (.cons (.expr (.meth .append (.var 2) (.cons (.call ic (.cons (.var 0) (.cons (.var 2) (.cons (.var 1) .nil)))) .nil)))
 .nil))
 (.cons (.ret (.comp (.bi .tuple (.cons (.comp (.idx (.var 4) (.var 5)) (.nm 4) (.val (.var 2)) (.lit (.bl true)) [4]) .nil)) (.nm 5) (.rng (.cons (.bi .len (.cons (.var 1) .nil)) .nil)) (.lit (.bl true)) [5]))
 .nil)))
def csDrawn (ip : Nat) : CSs := (.cons (.ret (.bi .tuple (.cons (.comp (.call ip (.cons (.var 0) (.cons (.var 1) .nil))) (.nm 3) (.rng (.cons (.call ip (.cons (.var 0) (.cons (.bin .add (.var 2) (.lit (.int 1))) .nil))) .nil)) (.lit (.bl true)) [3]) .nil)))
 .nil)
section
variable {P : List Fn} {fu d ic ir ip : Nat} {h : EH} {Q : PV → EH → Prop} {sh : List Ln} {hs : List Nat} {many k m : Nat}
theorem itrS {Qi : Itr → EH → Prop} : itrOf h (encS sh) Qi = Qi (.st (sh.map Ln.enc)) h := rfl
theorem lrows_ok (hP : P[ic]? = some ⟨3, 12, csColumn⟩) (hR : P[ir]? = some ⟨2, 6, csRows ic⟩) (ok : SheetOk many sh) (hl : sh.length ≤ 1000) (hh : hs.length ≤ 1000) (hfu : 2000 < fu)
    (q : ∀ (r : Nat) (h' : EH), h.length ≤ r → h'[r]? = some (.lst ((rows sh none hs).map encR)) → Kp [] h.length h h' → Q (.ref r) h') : Rr (run P fu (d + 2) ir [encS sh, encH hs] h) Q := by
  refine run_R hR rfl ?_
  simp only [csRows, Ss_cons]
  simp
  obtain ⟨I, hI⟩ : ∃ I : Nat → Sg → EH → Prop, ∀ i s h2, I i s h2 ↔ (∃ (rs : List Nat) (x : Option PV), s = [some (encS sh), some (encH hs), some (.ref h.length), x, none, none] ∧ h2[h.length]? = some (.lst (rs.map .ref)) ∧ rs.length = i ∧ (∀ (j r : Nat), rs[j]? = some r → h.length < r ∧ h2[r]? = some (.lst ((col sh hs j).map .bl))) ∧ Kp [] h.length h h2) := ⟨_, fun _ _ _ => Iff.rfl⟩
  refine for_st (xs := sh.map Ln.enc) (h1 := h ++ [.lst []]) I rfl ((hI _ _ _).mpr ⟨[], none, rfl, by simp, rfl, by simp, Kp.new (Nat.le_refl _)⟩) ?_ ?_
  · intro i x s h2 hx hj
    obtain ⟨rs, x1, rfl, e2, l2, r2, k2⟩ := (hI _ _ _).mp hj
    rw [List.getElem?_map] at hx
    obtain ⟨l, hl2, rfl⟩ := Option.map_eq_some_iff.mp hx
    have hi := (List.getElem?_eq_some_iff.mp hl2).1
    simp [bindT, k_lst e2]
    refine column_ok (k := i) hP ok hi hl hh hfu e2 l2 (fun j r e => (r2 j r e).2) fun r h3 hr e3 k3 => ?_
    have hL := get_lt e2
    have e4 : h3[h.length]? = some (.lst (rs.map .ref)) := k3.get e2 hL (by simp)
    rw [m_append e4 (by simp; omega)]
    have k4 := k2.trans (k3.less k2.2.1)
    refine (hI _ _ _).mpr ⟨rs ++ [r], some l.enc, rfl, ?_, by simp [l2], fun j r' e => ?_, k4.trans (Kp.set k4.2.1 (.inr (Nat.le_refl _)))⟩
    · rw [List.getElem?_set_self (get_lt e4)]; simp
    · rw [List.getElem?_append] at e
      split at e
      · obtain ⟨a, b⟩ := r2 j r' e
        refine ⟨a, ?_⟩
        rw [List.getElem?_set_ne (by omega)]
        exact k3.get b (get_lt b) (by simp)
      · have hj2 : j = i := by
          have := (List.getElem?_eq_some_iff.mp e).1
          simp at this
          omega
        subst hj2
        rw [l2, Nat.sub_self] at e
        cases e
        refine ⟨by omega, ?_⟩
        rw [List.getElem?_set_ne (by omega)]
        exact e3
  · intro s h2 hj
    obtain ⟨rs, x1, rfl, e2, l2, r2, k2⟩ := (hI _ _ _).mp hj
    rw [List.length_map] at l2
    simp [b_lenH, wipeE]
    rw [range1 (small_of (by omega) (by omega))]
    simp only [R_some]
    obtain ⟨I2, hI2⟩ : ∃ I : Nat → List PV → EH → Prop, ∀ i acc h3, I i acc h3 ↔ (acc = ((rows sh none hs).take i).map encR ∧ Kp [] h2.length h2 h3 ∧ i ≤ hs.length) := ⟨_, fun _ _ _ => Iff.rfl⟩
    refine Cp_st I2 ((hI2 _ _ _).mpr ⟨by simp, Kp.refl (Nat.le_refl _), Nat.zero_le _⟩) ?_ ?_
    · intro i acc x h3 hx hj3
      obtain ⟨rfl, k3, hi⟩ := (hI2 _ _ _).mp hj3
      rw [rL_get] at hx
      split at hx <;> cases hx
      rename_i hlt
      have hm : i < hs.length := by omega
      have e3 : h3[h.length]? = some (.lst (rs.map .ref)) := k3.get e2 (get_lt e2) (by simp)
      have r3 : ∀ (j r : Nat), rs[j]? = some r → h3[r]? = some (.lst ((col sh hs j).map .bl)) := fun j r e => k3.get (r2 j r e).2 (get_lt (r2 j r e).2) (by simp)
      simp [bindT, wipeE, itrOf, e3]
      refine Cp_pureJ (xs := rs.map .ref) (fun x => (opIx x (.int i) h3).getD .non) e3 (by simp; omega) (by simp; omega) (fun x hx => ?_) ?_
      · obtain ⟨r, hr, rfl⟩ := List.mem_map.mp hx
        obtain ⟨j, hj4, e⟩ := List.getElem_of_mem hr
        have er := r3 j r (by rw [List.getElem?_eq_getElem hj4, e])
        simp [bindT, x_lst er, seqAt_bl (show i < (col sh hs j).length by rw [col_len]; exact hm)]
      · rw [b_tupR get_new]
        refine ⟨by rw [rows_len]; omega, (hI2 _ _ _).mpr ⟨?_, k3.trans (Kp.new k3.2.1), by omega⟩⟩
        have row : (rows sh none hs)[i]? = some ((List.range sh.length).map fun k => V sh hs k i) := by rw [rows_col rfl]; simp [hm]
        have key : PV.tup ((rs.map PV.ref).map fun x => (opIx x (.int i) h3).getD .non) = encR ((List.range sh.length).map fun k => V sh hs k i) := by
          unfold encR
          congr 1
          refine List.ext_getElem? fun j => ?_
          by_cases c : j < sh.length
          · have ej : rs[j]? = some (rs[j]'(by omega)) := List.getElem?_eq_getElem _
            have er := r3 j _ ej
            have z := seqAt_bl (show i < (col sh hs j).length by rw [col_len]; exact hm)
            rw [col_get hm] at z
            simp [ej, c, x_lst er, z]
          · rw [List.getElem?_eq_none (by simp; omega), List.getElem?_eq_none (by simp; omega)]
        rw [List.take_add_one, row, key]
        simp
    · intro acc h3 hj3
      obtain ⟨rfl, k3, hi⟩ := (hI2 _ _ _).mp hj3
      rw [rangeL_len, List.take_of_length_le (by rw [rows_len]; omega)]
      have k4 := k2.trans (k3.less k2.2.1)
      exact q h3.length _ k4.2.1 get_new (k4.trans (Kp.new k4.2.1))
/-- a history that is drawn -/
theorem drawn_ok {n c : Nat} {most : Nat} {many' most' : Int} (em : many' = many) (es : most' = most) (hP : P[ip]? = some ⟨2, 4, csPick⟩) (hD : P[ic]? = some ⟨3, 4, csDrawn ip⟩) (hs : Src n c h) (hm : 1 ≤ many) (hm2 : many ≤ 1000) (hk2 : most ≤ 900) (hfu : 100 < fu)
    (q : ∀ (hs : List Nat) h', hs.length ≤ most → (∀ s ∈ hs, s < many) → Src n c h' → Kp [n, c] h.length h h' → Q (encH hs) h') : Rr (run P fu (d + 2) ic [.ref n, .int many', .int most'] h) Q := by
  subst em es
  refine run_R hD rfl ?_
  simp [csDrawn]
  refine pick_ok hP hs (by omega) (by omega) hfu fun p h1 p0 p1 s1 k1 => ?_
  rw [range1 (small_of (by omega) (by omega))]
  simp only [R_some]
  obtain ⟨I, hI⟩ : ∃ I : Nat → List PV → EH → Prop, ∀ i acc h3, I i acc h3 ↔ (∃ hs : List Nat, acc = hs.map (fun (s : Nat) => PV.int s) ∧ hs.length = i ∧ (∀ s ∈ hs, s < many) ∧ Src n c h3 ∧ Kp [n, c] h.length h h3) := ⟨_, fun _ _ _ => Iff.rfl⟩
  refine Cp_st I ((hI _ _ _).mpr ⟨[], rfl, rfl, by simp, s1, k1⟩) ?_ ?_
  · intro i acc x h3 hx hj
    obtain ⟨hs2, rfl, hl, hb, s3, k3⟩ := (hI _ _ _).mp hj
    have hi := (List.getElem?_eq_some_iff.mp hx).1
    rw [rangeL_len] at hi
    simp [bindT, wipeE]
    refine pick_ok hP s3 (by omega) (by omega) hfu fun v h4 v0 v1 s4 k4 => ?_
    refine ⟨by omega, (hI _ _ _).mpr ⟨hs2 ++ [v.toNat], ?_, by simp [hl], ?_, s4, k3.trans (k4.less k3.2.1)⟩⟩
    · have : ((v.toNat : Nat) : Int) = v := by omega
      simp [this]
    · intro s hs3
      rcases List.mem_append.mp hs3 with z | z
      · exact hb s z
      · have : s = v.toNat := by simpa using z
        omega
  · intro acc h3 hj
    obtain ⟨hs2, rfl, hl, hb, s3, k3⟩ := (hI _ _ _).mp hj
    rw [rangeL_len] at hl
    rw [b_tupR get_new]
    obtain ⟨ln3, lc3⟩ := s3.lt
    exact q hs2 _ (by omega) hb (s3.kp (M := []) (Kp.new (Nat.le_refl _)) ln3 lc3 (by simp) (by simp)) (k3.trans (Kp.new k3.2.1))
end
end EV

set_option Elab.async false
set_option linter.all false
set_option maxRecDepth 100000
set_option maxHeartbeats 4000000
/-! EV27: sheets, histories, rows as data. -/
namespace EV
open PySem PySem.Spec
def Ln.dt (l : Ln) : PyData := .tuple (.str (wS l.wd) :: l.args.map fun (i : Nat) => .int i)
def dS (sh : List Ln) : PyData := .tuple (sh.map Ln.dt)
def dH (hs : List Nat) : PyData := .tuple (hs.map fun (s : Nat) => .int s)
def dR (x : List Bool) : PyData := .tuple (x.map .bool)
section
variable {h : EH} {many k m : Nat} {sh : List Ln} {hs : List Nat} {Qb : Bool → Prop}
theorem nat_dat {b : Nat} (hm : m < 10 ^ 12) : Dat h k b (.int (m : Int)) (.int (m : Int)) := Dat.int (by simpa using hm)
theorem nats_dat {xs : List Nat} (hx : ∀ x ∈ xs, x < 10 ^ 12) : Dats h k (xs.length * 1) (xs.map fun (i : Nat) => PV.int i) (xs.map fun (i : Nat) => PyData.int i) := Dats.map (b := 0) fun x z => nat_dat (hx x z)
theorem ln_dat {l : Ln} (ok : l.ok many k) (hm : many ≤ 1000) (hk : k ≤ 1000) : Dat h 1 20 l.enc l.dt := by
  have ha : ∀ i ∈ l.args, i < 10 ^ 12 := fun i hi => by
    have z : (10 : Nat) ^ 12 = 1000000000000 := by decide
    rw [z]
    obtain ⟨o1, o2⟩ := ok
    cases l with
    | sign a =>
      have := o2 a rfl
      have : i = a := by simpa [Ln.args] using hi
      omega
    | not j => have := o1 i (by simpa [Ln.at, Ln.args] using hi); omega
    | and j l => have := o1 i (by simpa [Ln.at, Ln.args] using hi); omega
    | or j l => have := o1 i (by simpa [Ln.at, Ln.args] using hi); omega
    | before j => have := o1 i (by simpa [Ln.at, Ln.args] using hi); omega
    | since j l => have := o1 i (by simpa [Ln.at, Ln.args] using hi); omega
  have hl : l.args.length ≤ 2 := by cases l <;> simp [Ln.args]
  have hw : Dat h 0 6 (.str (wS l.wd)) (.str (wS l.wd)) := Dat.str (wS_gS _) (by cases l.wd <;> decide)
  exact ((Dats.cons hw (nats_dat ha)).tup).more (by omega)
theorem sh_dat (ok : SheetOk many sh) (hm : many ≤ 1000) (hl : sh.length ≤ 1000) : Dat h 2 (sh.length * 21) (encS sh) (dS sh) := by
  refine Dats.tup (Dats.map (b := 20) fun l hl2 => ?_)
  obtain ⟨k, hk, e⟩ := List.getElem_of_mem hl2
  exact ln_dat (ok k l (by rw [List.getElem?_eq_getElem hk, e])) hm (by omega)
theorem hs_dat (hb : ∀ s ∈ hs, s < 1000) : Dat h 1 hs.length (encH hs) (dH hs) := by
  have z : (10 : Nat) ^ 12 = 1000000000000 := by decide
  exact (Dats.tup (nats_dat (k := 0) fun x hx => by have := hb x hx; rw [z]; omega)).more (by omega)
theorem row_dat {x : List Bool} : Dat h 1 x.length (encR x) (dR x) := by
  exact (Dats.tup (Dats.map (m := 0) (b := 0) (f := PV.bl) (g := PyData.bool) (xs := x) fun _ _ => Dat.bl)).more (by omega)
theorem rows_dat {r w : Nat} {xs : List (List Bool)} (e : h[r]? = some (.lst (xs.map encR))) (hw : ∀ x ∈ xs, x.length = w) : Dat h 2 (xs.length * (w + 1)) (.ref r) (.list (xs.map dR)) :=
  Dats.lst (Dats.map (b := w) fun x hx => by have := row_dat (h := h) (x := x); rw [hw x hx] at this; exact this) e
theorem rows_w : ∀ {p : Option (List Bool)} {hs : List Nat}, ∀ x ∈ rows sh p hs, x.length = sh.length
  | p, [], x, hx => by cases hx
  | p, s :: hs, x, hx => by
    rw [rows] at hx
    rcases List.mem_cons.mp hx with e | e
    · rw [e]; exact row_len
    · exact rows_w x e
theorem eqD_of {v w : PV} {a b c e : Nat} {d1 d2 : PyData} (x : Dat h a b v d1) (y : Dat h c e w d2) (ha : a ≤ 60) (hc : c ≤ 60) : eqD h v w = some (PyData.eqv d1 d2) := by
  unfold eqD
  rw [x.to DF (by unfold DF; omega), y.to DF (by unfold DF; omega)]
  simp only [shaped_of x ha, shaped_of y hc, and_self, if_true]
theorem tup0 : Dat h 1 0 (.tup []) (.tuple []) := Dats.tup Dats.nil
theorem lst0 {r : Nat} (e : h[r]? = some (.lst [])) : Dat h 1 0 (.ref r) (.list []) := Dats.lst Dats.nil e
theorem ne_tup0 (hb : ∀ s ∈ hs, s < 1000) : R (opC .ne (encH hs) (.tup []) h) Qb ↔ Qb (!hs.isEmpty) := by
  simp only [opC, eqD_of (hs_dat hb) tup0 (by omega) (by omega), Option.map_some, R_some, dH, PyData.eqv]
  cases hs <;> simp [PyData.eqvAll]
theorem ne_lst0 {r r2 w : Nat} {xs : List (List Bool)} (e : h[r]? = some (.lst (xs.map encR))) (hw : ∀ x ∈ xs, x.length = w) (e2 : h[r2]? = some (.lst [])) : R (opC .ne (.ref r) (.ref r2) h) Qb ↔ Qb (!xs.isEmpty) := by
  simp only [opC, eqD_of (rows_dat e hw) (lst0 e2) (by omega) (by omega), Option.map_some, R_some, PyData.eqv]
  cases xs <;> simp [PyData.eqvAll]
theorem seq_last {xs : List PV} (hx : 0 < xs.length) : seqAt xs (-1) = xs[xs.length - 1]? := by
  unfold seqAt
  rw [if_pos (by omega), if_pos (by omega)]
  congr 1
  omega
theorem rows_last {p : Option (List Bool)} {s : Nat} : (rows sh p (hs ++ [s]))[hs.length]? = some (row sh (lastR sh p hs) s) := by
  rw [rows_app, List.getElem?_append_right (by rw [rows_len]; exact Nat.le_refl _), rows_len]
  simp
end
end EV

set_option Elab.async false
set_option linter.all false
set_option maxRecDepth 100000
set_option maxHeartbeats 4000000
/-! EV31: values of ints, texts, None and tuples of such: they are equal just if they are one; comprehensions with what they hold. -/
namespace EV
open PySem PySem.Spec
mutual
def plV : PV → Bool
  | .non => true
  | .int _ => true
  | .str x => PyData.strOk x
  | .tup xs => plVs xs
  | .bl _ => false
  | .ref _ => false
  | .fl _ => false
def plVs : List PV → Bool
  | [] => true
  | x :: xs => plV x && plVs xs
end
mutual
def dpV : PV → Nat
  | .tup xs => dpVs xs + 1
  | _ => 0
def dpVs : List PV → Nat
  | [] => 0
  | x :: xs => max (dpV x) (dpVs xs)
end
mutual
def dtV : PV → PyData
  | .non => .none
  | .int i => .int i
  | .str x => .str x
  | .bl b => .bool b
  | .tup xs => .tuple (dtVs xs)
  | .ref _ => .none
  | .fl _ => .none
def dtVs : List PV → List PyData
  | [] => []
  | x :: xs => dtV x :: dtVs xs
end
mutual
theorem toD_pl {h : EH} : ∀ (v : PV) (k : Nat), plV v = true → dpV v < k → toD h k v = some (dtV v)
  | .non, k, _, hk => by obtain ⟨j, rfl⟩ := toD_pos (show 0 < k by omega); rfl
  | .int i, k, _, hk => by obtain ⟨j, rfl⟩ := toD_pos (show 0 < k by omega); rfl
  | .str x, k, _, hk => by obtain ⟨j, rfl⟩ := toD_pos (show 0 < k by omega); rfl
  | .tup xs, k, hp, hk => by
    obtain ⟨j, rfl⟩ := toD_pos (show 0 < k by omega)
    rw [dpV] at hk
    rw [plV] at hp
    simp only [toD, toD_pls xs j hp (by omega), Option.map_some, dtV]
  | .bl _, k, hp, _ => by simp [plV] at hp
  | .ref _, k, hp, _ => by simp [plV] at hp
  | .fl _, k, hp, _ => by simp [plV] at hp
theorem toD_pls {h : EH} : ∀ (vs : List PV) (k : Nat), plVs vs = true → dpVs vs < k → mapO (toD h k) vs = some (dtVs vs)
  | [], k, _, _ => rfl
  | v :: vs, k, hp, hk => by
    rw [plVs, Bool.and_eq_true] at hp
    rw [dpVs] at hk
    rw [mapO, toD_pl v k hp.1 (by omega), toD_pls vs k hp.2 (by omega)]
    rfl
end
mutual
theorem lay_pl : ∀ (v : PV), plV v = true → (dtV v).canLay0 = true ∧ (dtV v).depth ≤ dpV v
  | .non, _ => ⟨rfl, by simp [dtV, PyData.depth]⟩
  | .int i, _ => ⟨rfl, by simp [dtV, PyData.depth]⟩
  | .str x, hp => ⟨by simpa [plV, dtV, PyData.canLay0] using hp, by simp [dtV, PyData.depth]⟩
  | .tup xs, hp => by
    rw [plV] at hp
    obtain ⟨a, b⟩ := lay_pls xs hp
    refine ⟨by simpa [dtV, PyData.canLay0] using a, ?_⟩
    simp only [dtV, PyData.depth, dpV]
    omega
  | .bl _, hp => by simp [plV] at hp
  | .ref _, hp => by simp [plV] at hp
  | .fl _, hp => by simp [plV] at hp
theorem lay_pls : ∀ (vs : List PV), plVs vs = true → PyData.canLayAll0 (dtVs vs) = true ∧ PyData.depthAll (dtVs vs) ≤ dpVs vs
  | [], _ => ⟨rfl, by simp [dtVs, PyData.depthAll]⟩
  | v :: vs, hp => by
    rw [plVs, Bool.and_eq_true] at hp
    obtain ⟨a, b⟩ := lay_pl v hp.1
    obtain ⟨c, d⟩ := lay_pls vs hp.2
    refine ⟨by simp [dtVs, PyData.canLayAll0, a, c], ?_⟩
    simp only [dtVs, PyData.depthAll, dpVs]
    omega
end
mutual
theorem eqv_pl : ∀ (v w : PV), plV v = true → plV w = true → PyData.eqv (dtV v) (dtV w) = decide (v = w)
  | .non, w, _, hw => by cases w <;> simp_all [plV, dtV, PyData.eqv]
  | .int i, w, _, hw => by
    cases w <;> simp_all [plV, dtV, PyData.eqv]
    rfl
  | .str x, w, _, hw => by
    cases w <;> simp_all [plV, dtV, PyData.eqv]
    rfl
  | .tup xs, .tup ys, hv, hw => by
    rw [plV] at hv hw
    simp only [dtV, PyData.eqv, eqv_pls xs ys hv hw, PV.tup.injEq]
  | .tup xs, .non, _, _ => by simp [dtV, PyData.eqv]
  | .tup xs, .int _, _, _ => by simp [dtV, PyData.eqv]
  | .tup xs, .str _, _, _ => by simp [dtV, PyData.eqv]
  | .tup xs, .bl _, _, hw => by simp [plV] at hw
  | .tup xs, .ref _, _, hw => by simp [plV] at hw
  | .tup xs, .fl _, _, hw => by simp [plV] at hw
  | .bl _, _, hv, _ => by simp [plV] at hv
  | .ref _, _, hv, _ => by simp [plV] at hv
  | .fl _, _, hv, _ => by simp [plV] at hv
theorem eqv_pls : ∀ (vs ws : List PV), plVs vs = true → plVs ws = true → PyData.eqvAll (dtVs vs) (dtVs ws) = decide (vs = ws)
  | [], [], _, _ => rfl
  | [], w :: ws, _, _ => rfl
  | v :: vs, [], _, _ => rfl
  | v :: vs, w :: ws, hv, hw => by
    rw [plVs, Bool.and_eq_true] at hv hw
    simp only [dtVs, PyData.eqvAll, eqv_pl v w hv.1 hw.1, eqv_pls vs ws hv.2 hw.2, List.cons.injEq]
    by_cases a : v = w <;> by_cases b : vs = ws <;> simp [a, b]
end
section
variable {h : EH} {x y : PV} {ys : List PV} {Qb : Bool → Prop} {Q : PV → EH → Prop}
theorem shaped_pl (hx : plV x = true) (dx : dpV x ≤ 60) : SeqAt.shaped (dtV x) = true := by
  unfold SeqAt.shaped
  obtain ⟨a, b⟩ := lay_pl x hx
  rw [a, decide_eq_true (Nat.le_trans b (by omega))]; rfl
theorem shaped_pls (hy : plVs ys = true) (dy : dpVs ys ≤ 60) : SeqAt.shaped (.list (dtVs ys)) = true := by
  unfold SeqAt.shaped
  obtain ⟨a, b⟩ := lay_pls ys hy
  have e1 : (PyData.list (dtVs ys)).canLay0 = true := by simpa [PyData.canLay0] using a
  have e2 : (PyData.list (dtVs ys)).depth ≤ 64 := by
    simp only [PyData.depth]
    omega
  rw [e1, decide_eq_true e2]; rfl
theorem eqD_pl (hx : plV x = true) (hy : plV y = true) (dx : dpV x ≤ 60) (dy : dpV y ≤ 60) : eqD h x y = some (decide (x = y)) := by
  unfold eqD
  rw [toD_pl x DF hx (by unfold DF; omega), toD_pl y DF hy (by unfold DF; omega)]
  simp only [if_pos (And.intro (shaped_pl hx dx) (shaped_pl hy dy)), eqv_pl x y hx hy]
theorem c_eqP (hx : plV x = true) (hy : plV y = true) (dx : dpV x ≤ 60) (dy : dpV y ≤ 60) : R (opC .eq x y h) Qb ↔ Qb (decide (x = y)) := by simp only [opC, eqD_pl hx hy dx dy, R_some]
theorem c_neP (hx : plV x = true) (hy : plV y = true) (dx : dpV x ≤ 60) (dy : dpV y ≤ 60) : R (opC .ne x y h) Qb ↔ Qb (!decide (x = y)) := by simp only [opC, eqD_pl hx hy dx dy, Option.map_some, R_some]
theorem any_pl (hx : plV x = true) : ∀ {ys : List PV}, plVs ys = true → ((dtVs ys).any fun z => PyData.eqv z (dtV x)) = decide (x ∈ ys)
  | [], _ => rfl
  | y :: ys, hy => by
    rw [plVs, Bool.and_eq_true] at hy
    simp only [dtVs, List.any_cons, eqv_pl y x hy.1 hx, any_pl hx hy.2, List.mem_cons]
    by_cases a : y = x
    · simp [a]
    · have : ¬ x = y := fun z => a z.symm
      simp [a, this]
theorem inD_pl (hx : plV x = true) (hy : plVs ys = true) (dx : dpV x ≤ 60) (dy : dpVs ys ≤ 60) : inD h x ys = some (decide (x ∈ ys)) := by
  unfold inD
  rw [toD_pl x DF hx (by unfold DF; omega), toD_pls ys DF hy (by unfold DF; omega)]
  simp only [if_pos (And.intro (shaped_pl hx dx) (shaped_pls hy dy)), any_pl hx hy]
theorem isIn_pt (hx : plV x = true) (hy : plVs ys = true) (dx : dpV x ≤ 60) (dy : dpVs ys ≤ 60) : isIn h x (.tup ys) = some (decide (x ∈ ys)) := inD_pl hx hy dx dy
theorem isIn_pl {r : Nat} (e : h[r]? = some (.lst ys)) (hx : plV x = true) (hy : plVs ys = true) (dx : dpV x ≤ 60) (dy : dpVs ys ≤ 60) : isIn h x (.ref r) = some (decide (x ∈ ys)) := by
  simp only [isIn, e, inD_pl hx hy dx dy]
theorem c_inT (hx : plV x = true) (hy : plVs ys = true) (dx : dpV x ≤ 60) (dy : dpVs ys ≤ 60) : R (opC .isIn x (.tup ys) h) Qb ↔ Qb (decide (x ∈ ys)) := by simp only [opC, isIn_pt hx hy dx dy, R_some]
theorem c_inL {r : Nat} (e : h[r]? = some (.lst ys)) (hx : plV x = true) (hy : plVs ys = true) (dx : dpV x ≤ 60) (dy : dpVs ys ≤ 60) : R (opC .isIn x (.ref r) h) Qb ↔ Qb (decide (x ∈ ys)) := by simp only [opC, isIn_pl e hx hy dx dy, R_some]
theorem c_ninT (hx : plV x = true) (hy : plVs ys = true) (dx : dpV x ≤ 60) (dy : dpVs ys ≤ 60) : R (opC .notIn x (.tup ys) h) Qb ↔ Qb (!decide (x ∈ ys)) := by simp only [opC, isIn_pt hx hy dx dy, Option.map_some, R_some]
theorem c_ninL {r : Nat} (e : h[r]? = some (.lst ys)) (hx : plV x = true) (hy : plVs ys = true) (dx : dpV x ≤ 60) (dy : dpVs ys ≤ 60) : R (opC .notIn x (.ref r) h) Qb ↔ Qb (!decide (x ∈ ys)) := by simp only [opC, isIn_pl e hx hy dx dy, Option.map_some, R_some]
theorem idx_pl (hx : plV x = true) : ∀ {ys : List PV} {k : Nat}, plVs ys = true → x ∈ ys → ∃ j, idxD (dtV x) (dtVs ys) k = some (k + j) ∧ ys[j]? = some x ∧ ∀ i < j, ys[i]? ≠ some x
  | [], _, _, m => by cases m
  | y :: ys, k, hy, m => by
    rw [plVs, Bool.and_eq_true] at hy
    by_cases a : y = x
    · subst a
      refine ⟨0, ?_, rfl, fun i hi => by omega⟩
      simp only [dtVs, idxD, eqv_pl y y hy.1 hx, decide_true, if_true]; rfl
    · have m2 : x ∈ ys := by
        rcases List.mem_cons.mp m with z | z
        · exact absurd z.symm a
        · exact z
      obtain ⟨j, e1, e2, e3⟩ := idx_pl hx (k := k + 1) hy.2 m2
      refine ⟨j + 1, ?_, by simpa using e2, fun i hi => ?_⟩
      · simp only [dtVs, idxD, eqv_pl y x hy.1 hx, decide_eq_false a, Bool.false_eq_true, if_false, e1]
        congr 1
        omega
      · cases i with
        | zero => simpa using a
        | succ i => simpa using e3 i (by omega)
theorem m_index {r : Nat} (e : h[r]? = some (.lst ys)) (hx : plV x = true) (hy : plVs ys = true) (dx : dpV x ≤ 60) (dy : dpVs ys ≤ 60) (m : x ∈ ys)
    (q : ∀ j : Nat, ys[j]? = some x → (∀ i < j, ys[i]? ≠ some x) → Q (.int (j : Int)) h) : Rr (opMe .index (.ref r) [x] h) Q := by
  obtain ⟨j, e1, e2, e3⟩ := idx_pl hx (k := 0) hy m
  simp only [opMe, isL, e, toD_pl x DF hx (by unfold DF; omega), toD_pls ys DF hy (by unfold DF; omega), if_pos (And.intro (shaped_pls hy dy) (shaped_pl hx dx)), e1, Option.map_some, Rr_some]
  rw [Nat.zero_add]
  exact q j e2 e3
theorem pl_ints {xs : List Nat} : plVs (xs.map fun (n : Nat) => PV.int n) = true ∧ dpVs (xs.map fun (n : Nat) => PV.int n) = 0 := by
  induction xs with
  | nil => exact ⟨rfl, rfl⟩
  | cons x xs ih => exact ⟨by simp [plVs, plV, ih.1], by simp [dpVs, dpV, ih.2]⟩
theorem pl_H {xs : List Nat} : plV (encH xs) = true ∧ dpV (encH xs) = 1 := ⟨by unfold encH; rw [plV]; exact pl_ints.1, by unfold encH; rw [dpV, pl_ints.2]⟩
theorem pl_map {α : Type} {f : α → PV} {m : Nat} : ∀ {xs : List α}, (∀ x ∈ xs, plV (f x) = true ∧ dpV (f x) ≤ m) → plVs (xs.map f) = true ∧ dpVs (xs.map f) ≤ m
  | [], _ => ⟨rfl, Nat.zero_le _⟩
  | x :: xs, hx => by
    obtain ⟨a, b⟩ := hx x List.mem_cons_self
    obtain ⟨c, d⟩ := pl_map (xs := xs) fun y z => hx y (List.mem_cons_of_mem _ z)
    exact ⟨by simp [plVs, a, c], by simp only [List.map_cons, dpVs]; omega⟩
theorem int_mem {k : Nat} {xs : List Nat} : PV.int (k : Int) ∈ xs.map (fun (n : Nat) => PV.int n) ↔ k ∈ xs := by
  rw [List.mem_map]
  exact ⟨fun ⟨a, b, c⟩ => by have := PV.int.inj c; have : a = k := by omega
                             exact this ▸ b, fun m => ⟨k, m, rfl⟩⟩
end
/-! comprehensions -/
section
variable {F : Ca} {fu : Nat} {s : Sg} {h : EH} {c e : CE} {Qs : List PV → EH → Prop} {v : Nat}
theorem Cp_gen {ys : List PV} (M : List Nat) (p : Nat → PV → EH → Prop) (J : EH → Prop) (mono : ∀ i x g g', p i x g → Kp M g.length g g' → p i x g') (hl : ys.length ≤ 16777216) (h0 : J h)
    (step : ∀ i y g, ys[i]? = some y → J g → E F fu e (s.set v (some y)) g fun x g' => p i x g' ∧ Kp M g.length g g' ∧ J g')
    (q : ∀ xs g, xs.length = ys.length → (∀ i x, xs[i]? = some x → p i x g) → J g → Qs xs g) : Cp F fu e (.nm v) (.lit (.bl true)) s (.st ys) h Qs := by
  refine Cp_st (fun i acc g => acc.length = i ∧ (∀ k x, acc[k]? = some x → p k x g) ∧ J g) ⟨rfl, fun k x z => by simp at z, h0⟩ ?_ ?_
  · rintro i acc y g hy ⟨hl1, hp, hJ⟩
    have hi := (List.getElem?_eq_some_iff.mp hy).1
    simp only [bindT, R_some, E_lit, T_bl, if_true]
    refine (step i y g hy hJ).mono fun x g' ⟨px, k, hJ'⟩ => ⟨by rw [sz]; omega, by simp [hl1], fun k2 x2 z => ?_, hJ'⟩
    rw [List.getElem?_append] at z
    split at z
    · exact mono _ _ _ _ (hp _ _ z) k
    · have : k2 = i := by
        have := (List.getElem?_eq_some_iff.mp z).1
        simp at this
        omega
      subst this
      rw [hl1] at z
      simp at z
      exact z ▸ px
  · rintro acc g ⟨hl1, hp, hJ⟩
    exact q acc g hl1 hp hJ
theorem Cp_genJ {ys : List PV} {r : Nat} (M : List Nat) (p : Nat → PV → EH → Prop) (J : EH → Prop) (mono : ∀ i x g g', p i x g → Kp M g.length g g' → p i x g') (hl : ys.length ≤ 16777216) (hfu : ys.length < fu) (h0 : J h) (hr : ∀ g, J g → g[r]? = some (.lst ys))
    (step : ∀ i y g, ys[i]? = some y → J g → E F fu e (s.set v (some y)) g fun x g' => p i x g' ∧ Kp M g.length g g' ∧ J g')
    (q : ∀ xs g, xs.length = ys.length → (∀ i x, xs[i]? = some x → p i x g) → J g → Qs xs g) : Cp F fu e (.nm v) (.lit (.bl true)) s (.dy r) h Qs := by
  refine Cp_J (fun i acc g => acc.length = i ∧ i ≤ ys.length ∧ (∀ k x, acc[k]? = some x → p k x g) ∧ J g) (B := ys.length) (fun _ => by simp) hfu ⟨rfl, Nat.zero_le _, fun k x z => by simp at z, h0⟩ ?_
  rintro i acc g ⟨hl1, hi, hp, hJ⟩
  refine ⟨hi, ys[i]?, by simp only [item, hr g hJ], ?_⟩
  cases hy : ys[i]? with
  | none =>
    have := List.getElem?_eq_none_iff.mp hy
    exact q acc g (by omega) hp hJ
  | some y =>
    have hi2 := (List.getElem?_eq_some_iff.mp hy).1
    simp only [bindT, R_some, E_lit, T_bl, if_true]
    refine (step i y g hy hJ).mono fun x g' ⟨px, k, hJ'⟩ => ⟨by rw [sz]; omega, by simp [hl1], hi2, fun k2 x2 z => ?_, hJ'⟩
    rw [List.getElem?_append] at z
    split at z
    · exact mono _ _ _ _ (hp _ _ z) k
    · have : k2 = i := by
        have := (List.getElem?_eq_some_iff.mp z).1
        simp at this
        omega
      subst this
      rw [hl1] at z
      simp at z
      exact z ▸ px
end
end EV

set_option Elab.async false
set_option linter.all false
set_option maxRecDepth 100000
set_option maxHeartbeats 4000000
/-! EV32: rules for isinstance, the text's dicts, chains, texts. -/
namespace EV
open PySem PySem.Spec
section
variable {F : Ca} {fu : Nat} {s : Sg} {h : EH} {a b c e : CE} {Q : PV → EH → Prop} {Qb : Bool → Prop}
@[simp] theorem E_isI {t : Ty} : E F fu (.isI t a) s h Q ↔ E F fu a s h fun x h1 => R (isTy h1 t x) fun b => Q (.bl b) h1 := by
  unfold E
  simp only [ev]
  cases ev F fu a s h with
  | none => simp only [R_none]
  | some x =>
    obtain ⟨x, h1⟩ := x
    simp only [R_some]
    cases isTy h1 t x <;> simp only [R_none, R_some]
@[simp] theorem E_kix {kvs : List (Str × PV)} : E F fu (.kix kvs a) s h Q ↔ E F fu a s h fun x h1 => ∃ z, x = .str z ∧ R (kvs.lookup z) fun v => Q v h1 := by
  unfold E
  simp only [ev]
  cases ev F fu a s h with
  | none => simp only [R_none]
  | some x =>
    obtain ⟨x, h1⟩ := x
    simp only [R_some]
    cases x <;> simp [R_none]
    rename_i z
    cases kvs.lookup z <;> simp only [R_none, R_some]
@[simp] theorem E_chn {o o' : COp} : E F fu (.chn o o' a b c) s h Q ↔ E F fu a s h fun x h1 => E F fu b s h1 fun y h2 => R (opC o x y h2) fun t => if t = true then E F fu c s h2 fun z h3 => R (opC o' y z h3) fun t => Q (.bl t) h3 else Q (.bl false) h2 := by
  unfold E
  simp only [ev]
  cases ev F fu a s h with
  | none => simp only [R_none]
  | some x =>
    obtain ⟨x, h1⟩ := x
    simp only [R_some]
    cases ev F fu b s h1 with
    | none => simp only [R_none]
    | some y =>
      obtain ⟨y, h2⟩ := y
      simp only [R_some]
      cases opC o x y h2 with
      | none => simp only [R_none]
      | some t =>
        cases t
        · simp [R_some]
        · simp only [R_some, if_true]
          cases ev F fu c s h2 with
          | none => simp only [R_none]
          | some z =>
            simp only [R_some]
            cases opC o' y z.1 z.2 <;> simp only [R_none, R_some]
@[simp] theorem t_tup {t : Ty} {xs : List PV} : isTy h t (.tup xs) = some (decide (t = .tup)) := rfl
@[simp] theorem t_str {t : Ty} {x : Str} : isTy h t (.str x) = some (decide (t = .str)) := rfl
@[simp] theorem t_int {t : Ty} {x : Int} : isTy h t (.int x) = some (decide (t = .int)) := rfl
/-! words that are told outright -/
def ckE (x y : PV) (b : Bool) : Bool := plV x && plV y && decide (dpV x ≤ 60) && decide (dpV y ≤ 60) && (decide (x = y) == b)
def ckI (x : PV) (ys : List PV) (b : Bool) : Bool := plV x && plVs ys && decide (dpV x ≤ 60) && decide (dpVs ys ≤ 60) && (decide (x ∈ ys) == b)
variable {x y : PV} {ys : List PV} {t : Bool}
theorem ckE_o (ck : ckE x y t = true) : plV x = true ∧ plV y = true ∧ dpV x ≤ 60 ∧ dpV y ≤ 60 ∧ decide (x = y) = t := by
  unfold ckE at ck
  simp only [Bool.and_eq_true, decide_eq_true_eq, beq_iff_eq] at ck
  exact ⟨ck.1.1.1.1, ck.1.1.1.2, ck.1.1.2, ck.1.2, ck.2⟩
theorem ckI_o (ck : ckI x ys t = true) : plV x = true ∧ plVs ys = true ∧ dpV x ≤ 60 ∧ dpVs ys ≤ 60 ∧ decide (x ∈ ys) = t := by
  unfold ckI at ck
  simp only [Bool.and_eq_true, decide_eq_true_eq, beq_iff_eq] at ck
  exact ⟨ck.1.1.1.1, ck.1.1.1.2, ck.1.1.2, ck.1.2, ck.2⟩
theorem w_eq (t : Bool) (ck : ckE x y t = true) : R (opC .eq x y h) Qb ↔ Qb t := by obtain ⟨a, b, c, d, e⟩ := ckE_o ck; rw [c_eqP a b c d, e]
theorem w_ne (t : Bool) (ck : ckE x y t = true) : R (opC .ne x y h) Qb ↔ Qb !t := by obtain ⟨a, b, c, d, e⟩ := ckE_o ck; rw [c_neP a b c d, e]
theorem w_in (t : Bool) (ck : ckI x ys t = true) : R (opC .isIn x (.tup ys) h) Qb ↔ Qb t := by obtain ⟨a, b, c, d, e⟩ := ckI_o ck; rw [c_inT a b c d, e]
theorem w_nin (t : Bool) (ck : ckI x ys t = true) : R (opC .notIn x (.tup ys) h) Qb ↔ Qb !t := by obtain ⟨a, b, c, d, e⟩ := ckI_o ck; rw [c_ninT a b c d, e]
theorem b_strI {i : Int} (hi : i.natAbs.log2 < 1920) : Rr (opBi .str [.int i] h) Q ↔ Q (.str (toString i)) h := by
  simp only [opBi, if_pos hi, Rr_ok]
theorem b_sum {n : Nat} {ns : List Int} (e : h[n]? = some (.lst (ns.map PV.int))) : Rr (opBi .sum [.ref n] h) Q ↔ Q (.int ns.sum) h := by
  have z : intsOf (ns.map PV.int) = some ns := by
    unfold intsOf
    clear e
    induction ns with
    | nil => rfl
    | cons n ns ih => simp only [List.map_cons, mapO, ih]
  simp only [opBi, isL, e, z, Rr_ok]
theorem bls_of {bs : List Bool} : blsOf (bs.map PV.bl) = some bs := by
  unfold blsOf
  induction bs with
  | nil => rfl
  | cons n ns ih => simp only [List.map_cons, mapO, ih]
theorem b_any {n : Nat} {ns : List Bool} (e : h[n]? = some (.lst (ns.map PV.bl))) : Rr (opBi .any [.ref n] h) Q ↔ Q (.bl (ns.any id)) h := by
  simp only [opBi, isL, e, bls_of, Rr_ok]
theorem b_all {n : Nat} {ns : List Bool} (e : h[n]? = some (.lst (ns.map PV.bl))) : Rr (opBi .all [.ref n] h) Q ↔ Q (.bl (ns.all id)) h := by
  simp only [opBi, isL, e, bls_of, Rr_ok]
theorem x_setL {n k : Nat} {i : Int} {xs : List PV} {v : PV} (e : h[n]? = some (.lst xs)) (ei : i = k) (hk : k < xs.length) : setIx (.ref n) (.int i) v h = some (h.set n (.lst (xs.set k v))) := by
  subst ei
  simp only [setIx, e]
  rw [if_neg (by omega), if_pos (by omega)]
  rfl
theorem m_extend {n m : Nat} {xs ys : List PV} (e : h[n]? = some (.lst xs)) (e2 : h[m]? = some (.lst ys)) (hl : xs.length + ys.length ≤ sizeLine) : Rr (opMe .extend (.ref n) [.ref m] h) Q ↔ Q .non (h.set n (.lst (xs ++ ys))) := by
  simp only [opMe, e, e2, if_pos hl, Rr_some]
/-! a comprehension over fixed items, item by item -/
def CpS (F : Ca) (fu : Nat) (e : CE) (t : Tg) (c : CE) (s : Sg) (xs acc : List PV) (h : EH) (Qs : List PV → EH → Prop) : Prop := R (compS (compF F fu e t c s) xs acc h) fun r => Qs r.1 r.2
theorem Cp_S {Qs : List PV → EH → Prop} {tg : Tg} {xs : List PV} : Cp F fu e tg c s (.st xs) h Qs ↔ CpS F fu e tg c s xs [] h Qs := Iff.rfl
theorem CpS_nil {Qs : List PV → EH → Prop} {tg : Tg} {acc : List PV} : CpS F fu e tg c s [] acc h Qs ↔ Qs acc h := R_some
theorem CpS_cons {Qs : List PV → EH → Prop} {tg : Tg} {v : PV} {xs acc : List PV} : CpS F fu e tg c s (v :: xs) acc h Qs ↔ R (bindT tg v s) fun s2 => E F fu c s2 h fun b h1 => T h1 b fun tt => if tt = true then E F fu e s2 h1 fun y h2 => acc.length < sizeLine ∧ CpS F fu e tg c s xs (acc ++ [y]) h2 Qs else CpS F fu e tg c s xs acc h1 Qs := by
  unfold CpS E T
  simp only [compS]
  conv => lhs; rw [show ∀ r, R r (fun r : List PV × EH => Qs r.1 r.2) = R r (fun r => Qs r.1 r.2) from fun _ => rfl]
  cases eb : bindT tg v s with
  | none => simp only [compF, eb, R_none]
  | some s2 =>
    simp only [R_some]
    cases ec : ev F fu c s2 h with
    | none => simp only [compF, eb, ec, R_none]
    | some x1 =>
      obtain ⟨b, h1⟩ := x1
      simp only [R_some]
      cases et : truth h1 b with
      | none => simp only [compF, eb, ec, et, R_none]
      | some tt =>
        simp only [R_some]
        cases tt with
        | false => simp [compF, eb, ec, et]
        | true =>
          cases ee : ev F fu e s2 h1 with
          | none => simp [compF, eb, ec, et, ee, R_none]
          | some x2 =>
            obtain ⟨y, h2⟩ := x2
            simp [compF, eb, ec, et, ee, R_some, R_if]
/-- for, over a list that is kept -/
theorem for_L {i : Nat} {it : CI} {ss : CSs} {ys : List PV} {D : Fl → Sg → EH → Prop} (I : Nat → Nat → Sg → EH → Prop)
    (hi : Ei F fu it s h fun J h1 => ∃ r, J = .dy r ∧ I r 0 s h1) (hfu : ys.length < fu)
    (keep : ∀ r k s g, I r k s g → g[r]? = some (.lst ys) ∧ k ≤ ys.length)
    (step : ∀ r k y s g, ys[k]? = some y → I r k s g → Ss F fu ss (s.set i (some y)) g (turn (I r (k + 1)) D))
    (fin : ∀ r s g, I r ys.length s g → D .nx s g) : S F fu (.frr (.nm i) it ss) s h D := by
  obtain ⟨⟨J, h1⟩, e, r, rfl, h0⟩ := hi
  refine for_J (I r) (B := ys.length) (fun _ => by simp) e hfu h0 ?_
  intro k s g hI
  obtain ⟨e1, e2⟩ := keep r k s g hI
  refine ⟨e2, ys[k]?, by simp only [item, e1], ?_⟩
  cases hy : ys[k]? with
  | none =>
    have := List.getElem?_eq_none_iff.mp hy
    have : k = ys.length := by omega
    subst this
    exact fin _ _ _ hI
  | some y =>
    simp only [bindT, R_some]
    exact step r k y s g hy hI
end
end EV

set_option Elab.async false
set_option linter.all false
set_option maxRecDepth 100000
set_option maxHeartbeats 4000000
/-! K59: dicts whose keys are numbers, sorted keys; the lines that a sheet needs. -/
namespace EV
open PySem PySem.Spec
namespace K59
/-- a dict k: True, .. -/
def kd (ks : List Nat) : List (PV × PV) := ks.map fun (k : Nat) => (PV.int k, PV.bl true)
def ins (ks : List Nat) (k : Nat) : List Nat := if k ∈ ks then ks else ks ++ [k]
def nl (ks : List Nat) : EO := .lst (ks.map fun (k : Nat) => .int k)
def srt (ks : List Nat) : List Nat := ks.mergeSort fun a b => decide (a ≤ b)
section
variable {h : EH} {n : Nat} {ks : List Nat} {Q : PV → EH → Prop} {Qb : Bool → Prop}
theorem dget_kd {k : Nat} : dget (kd ks) (.int k) = if k ∈ ks then some (.bl true) else none := by
  induction ks with
  | nil => rfl
  | cons x xs ih =>
    show (if PV.int x = PV.int k then some (PV.bl true) else dget (kd xs) (.int k)) = _
    rw [ih]
    by_cases c : x = k
    · subst c; simp
    · have : ¬ PV.int x = PV.int k := fun z => c (by have := PV.int.inj z; omega)
      rw [if_neg this]
      by_cases c2 : k ∈ xs
      · rw [if_pos c2, if_pos (List.mem_cons_of_mem _ c2)]
      · rw [if_neg c2, if_neg (by simp [c2]; exact fun z => c z.symm)]
theorem dput_kd {k : Nat} : dput (kd ks) (.int k) (.bl true) = kd (ins ks k) := by
  unfold dput ins
  rw [dget_kd]
  by_cases c : k ∈ ks
  · simp only [if_pos c, Option.isSome_some, if_true]
    unfold kd
    rw [List.map_map]
    refine List.map_congr_left fun x _ => ?_
    simp only [Function.comp]
    split <;> rfl
  · simp only [if_neg c]
    simp [kd]
theorem in_kd {k : Nat} (e : h[n]? = some (.dict (kd ks))) : isIn h (.int k) (.ref n) = some (decide (k ∈ ks)) := by
  simp only [isIn, e, keyOf, dget_kd]
  by_cases c : k ∈ ks <;> simp [c]
theorem c_inD {k : Nat} (e : h[n]? = some (.dict (kd ks))) : R (opC .isIn (.int k) (.ref n) h) Qb ↔ Qb (decide (k ∈ ks)) := by simp only [opC, in_kd e, R_some]
theorem c_notInD {k : Nat} (e : h[n]? = some (.dict (kd ks))) : R (opC .notIn (.int k) (.ref n) h) Qb ↔ Qb (!decide (k ∈ ks)) := by simp only [opC, in_kd e, Option.map_some, R_some]
theorem set_kd {k : Nat} (e : h[n]? = some (.dict (kd ks))) (hl : ks.length < 1000000) : setIx (.ref n) (.int k) (.bl true) h = some (h.set n (.dict (kd (ins ks k)))) := by
  simp only [setIx, e, keyOf]
  rw [if_pos (by rw [sz]; unfold kd; rw [List.length_map]; omega), dput_kd]
theorem list_kd (e : h[n]? = some (.dict (kd ks))) : Rr (opBi .list [.ref n] h) Q ↔ Q (.ref h.length) (h ++ [nl ks]) := by
  have z : (kd ks).map (·.1) = ks.map fun (k : Nat) => PV.int k := by unfold kd; rw [List.map_map]; rfl
  simp only [opBi, isLT, isDc, e, z]
  exact Rr_new
theorem ints_nl : ∀ {ks : List Nat}, intsOf (ks.map fun (k : Nat) => PV.int k) = some (ks.map fun (k : Nat) => (k : Int))
  | [] => rfl
  | k :: ks => by
    have := ints_nl (ks := ks)
    unfold intsOf at this ⊢
    simp only [List.map_cons, mapO, this]
theorem sorted_nl (e : h[n]? = some (nl ks)) : Rr (opBi .sorted [.ref n] h) Q ↔ Q (.ref h.length) (h ++ [nl (srt ks)]) := by
  have e' : h[n]? = some (.lst (ks.map fun (k : Nat) => PV.int k)) := e
  have m : (ks.map fun (k : Nat) => (k : Int)).mergeSort (fun a b => decide (a ≤ b)) = (srt ks).map fun (k : Nat) => (k : Int) := by
    unfold srt
    exact (List.map_mergeSort fun a _ b _ => by simp).symm
  simp only [opBi, isL, e', ints_nl, m]
  rw [List.map_map]
  exact Rr_new
theorem srt_eq {xs ys : List Nat} (hx : xs.Nodup) (hy : ys.Nodup) (e : ∀ k, k ∈ xs ↔ k ∈ ys) : srt xs = srt ys := by
  have p : xs.Perm ys := (List.perm_ext_iff_of_nodup hx hy).mpr e
  have p2 : (srt xs).Perm (srt ys) := (List.mergeSort_perm _ _).trans (p.trans (List.mergeSort_perm _ _).symm)
  have tr : ∀ a b c : Nat, decide (a ≤ b) = true → decide (b ≤ c) = true → decide (a ≤ c) = true := fun a b c h1 h2 => by
    have := of_decide_eq_true h1; have := of_decide_eq_true h2
    exact decide_eq_true (by omega)
  have to : ∀ a b : Nat, (decide (a ≤ b) || decide (b ≤ a)) = true := fun a b => by
    rcases Nat.le_total a b with q | q <;> simp [q]
  refine p2.eq_of_pairwise (le := fun a b => decide (a ≤ b) = true) (fun a b _ _ h1 h2 => by
    have := of_decide_eq_true h1; have := of_decide_eq_true h2
    omega) (List.pairwise_mergeSort tr to _) (List.pairwise_mergeSort tr to _)
theorem srt_mem {k : Nat} : k ∈ srt ks ↔ k ∈ ks := (List.mergeSort_perm _ _).mem_iff
theorem srt_len : (srt ks).length = ks.length := (List.mergeSort_perm _ _).length_eq
theorem ins_mem {j k : Nat} : j ∈ ins ks k ↔ j ∈ ks ∨ j = k := by
  unfold ins
  by_cases c : k ∈ ks
  · rw [if_pos c]
    exact ⟨.inl, fun z => z.elim id fun e => e ▸ c⟩
  · rw [if_neg c]; simp
theorem ins_nodup {k : Nat} (hk : ks.Nodup) : (ins ks k).Nodup := by
  unfold ins
  by_cases c : k ∈ ks
  · rw [if_pos c]; exact hk
  · rw [if_neg c, List.nodup_append]
    exact ⟨hk, by simp, fun a ha b hb => by
      have : b = k := by simpa using hb
      subst this
      exact fun z => c (z ▸ ha)⟩
theorem ins_len {k : Nat} : (ins ks k).length ≤ ks.length + 1 := by
  unfold ins
  split <;> simp
end
/-- what the last line needs -/
inductive Rc (sh : List Ln) : Nat → Prop
  | top : Rc sh (sh.length - 1)
  | step {j i : Nat} {l : Ln} : Rc sh j → sh[j]? = some l → i ∈ l.at → Rc sh i
/-- closed, and no more -/
structure Nd (sh : List Ln) (ks : List Nat) : Prop where
  nd : ks.Nodup
  rc : ∀ k ∈ ks, Rc sh k
  top : sh.length - 1 ∈ ks
  cl : ∀ (j : Nat) (l : Ln) (i : Nat), j ∈ ks → sh[j]? = some l → i ∈ l.at → i ∈ ks
theorem Nd.iff {sh : List Ln} {ks : List Nat} (x : Nd sh ks) (k : Nat) : k ∈ ks ↔ Rc sh k := by
  refine ⟨x.rc k, fun r => ?_⟩
  induction r with
  | top => exact x.top
  | step r e hi ih => exact x.cl _ _ _ ih e hi
theorem Nd.srt {sh : List Ln} {ks js : List Nat} (x : Nd sh ks) (y : Nd sh js) : srt ks = srt js := srt_eq x.nd y.nd fun k => (x.iff k).trans (y.iff k).symm
theorem Rc.lt {sh : List Ln} {many k : Nat} (ok : SheetOk many sh) (h0 : 0 < sh.length) (r : Rc sh k) : k < sh.length := by
  induction r with
  | top => omega
  | step r e hi ih =>
    have := (ok _ _ e).1 _ hi
    omega
def csMembers : CSs := (.cons (.ret (.ife (.cmp .eq (.idx (.var 0) (.lit (.int 0))) (.lit (.str (wS .sign)))) (.tup .nil) (.slc true false (.var 0) (.lit (.int 1)) (.lit .non)))) .nil)
def csLMembers : CSs := (.cons (.ret (.ife (.cmp .eq (.idx (.var 0) (.lit (.int 0))) (.lit (.str (wS .sign)))) (.lst .nil) (.bi .list (.cons (.slc true false (.var 0) (.lit (.int 1)) (.lit .non)) .nil)))) .nil)
section
variable {P : List Fn} {fu d i0 : Nat} {h : EH} {Q : PV → EH → Prop} {sh : List Ln} {many k : Nat}
def encN (ks : List Nat) : PV := .tup (ks.map fun (k : Nat) => .int k)
theorem cut1 {x : PV} {xs : List PV} : cutP (x :: xs) (some 1) none = xs := by
  unfold cutP
  have : HT.sIx (x :: xs).length 0 (some 1) = 1 := by
    have := HT.sIx_nat (x :: xs).length 0 1
    simpa using this
  rw [this, HT.sIx_none]
  simp
theorem members_ok {l : Ln} (hP : P[i0]? = some ⟨1, 1, csMembers⟩) (q : Q (encN l.at) h) : Rr (run P fu (d + 1) i0 [l.enc] h) Q := by
  refine run_R hP rfl ?_
  cases l <;> simp [csMembers, Ln.enc, Ln.wd, Ln.args, sq0, partOf, opSl, cut1] <;> simpa [retQ, encN, Ln.at] using q
theorem lmembers_ok {l : Ln} (hP : P[i0]? = some ⟨1, 1, csLMembers⟩) (q : Q (.ref h.length) (h ++ [nl l.at])) : Rr (run P fu (d + 1) i0 [l.enc] h) Q := by
  refine run_R hP rfl ?_
  cases l <;> simp [csLMembers, Ln.enc, Ln.wd, Ln.args, sq0, partOf, opSl, cut1, opBi, isLT] <;> simpa [retQ, nl, Ln.at] using q
end
end K59
end EV

set_option Elab.async false
set_option linter.all false
set_option maxRecDepth 100000
set_option maxHeartbeats 4000000
/-! K10: machines, the state behind a history. -/
namespace EV
open PySem PySem.Spec
namespace K10
structure Mach where
  many : Nat
  rows : List (List Nat)
  first : Nat
  last : List Nat
structure MachOk (M : Mach) : Prop where
  m1 : 1 ≤ M.many
  row : ∀ r ∈ M.rows, r.length = M.many ∧ ∀ x ∈ r, x < M.rows.length
  fst : M.first < M.rows.length
  lst : ∀ x ∈ M.last, x < M.rows.length
def encM (M : Mach) : PV := .tup [.int (M.many : Int), .tup (M.rows.map encH), .int (M.first : Int), encH M.last]
def go1 (M : Mach) (s a : Nat) : Nat := (M.rows.getD s []).getD a 0
def go (M : Mach) (s : Nat) (hs : List Nat) : Nat := hs.foldl (go1 M) s
section
variable {P : List Fn} {fu d i0 i1 i9 : Nat} {h : EH} {Q : PV → EH → Prop} {M : Mach} {hs : List Nat} {s a : Nat}
theorem go1_lt (ok : MachOk M) (hs : s < M.rows.length) (ha : a < M.many) : go1 M s a < M.rows.length := by
  have e : M.rows[s]? = some M.rows[s] := List.getElem?_eq_getElem hs
  have r := ok.row _ (List.getElem_mem hs)
  have rd : M.rows.getD s [] = M.rows[s] := by rw [List.getD_eq_getElem?_getD, e]; rfl
  unfold go1
  rw [rd, List.getD_eq_getElem?_getD, List.getElem?_eq_getElem (by rw [r.1]; exact ha)]
  exact r.2 _ (List.getElem_mem _)
theorem go_lt (ok : MachOk M) : ∀ {hs : List Nat} {s : Nat}, s < M.rows.length → (∀ a ∈ hs, a < M.many) → go M s hs < M.rows.length
  | [], s, h, _ => h
  | a :: hs, s, h, hb => go_lt ok (hs := hs) (go1_lt ok h (hb a List.mem_cons_self)) fun b z => hb b (List.mem_cons_of_mem _ z)
theorem m0 : opIx (encM M) (.int 0) h = some (.int (M.many : Int)) := rfl
theorem m1 : opIx (encM M) (.int 1) h = some (.tup (M.rows.map encH)) := rfl
theorem m2 : opIx (encM M) (.int 2) h = some (.int (M.first : Int)) := rfl
theorem m3 : opIx (encM M) (.int 3) h = some (encH M.last) := rfl
theorem h_ix {ks : List Nat} {i : Nat} (hi : i < ks.length) : opIx (encH ks) (.int (i : Int)) h = some (.int ((ks.getD i 0 : Nat) : Int)) := by
  unfold encH
  rw [x_tup, seqAt_nat, List.getElem?_map, List.getElem?_eq_getElem hi]
  simp [hi]
theorem row_ix (hs : s < M.rows.length) : opIx (.tup (M.rows.map encH)) (.int (s : Int)) h = some (encH (M.rows.getD s [])) := by
  rw [x_tup, seqAt_nat, List.getElem?_map, List.getElem?_eq_getElem hs]
  simp [hs]
theorem cell_ix (ok : MachOk M) (hs : s < M.rows.length) (ha : a < M.many) : opIx (encH (M.rows.getD s [])) (.int (a : Int)) h = some (.int ((go1 M s a : Nat) : Int)) := by
  refine h_ix ?_
  have e : M.rows[s]? = some M.rows[s] := List.getElem?_eq_getElem hs
  rw [List.getD_eq_getElem?_getD, e, Option.getD_some, (ok.row _ (List.getElem_mem hs)).1]
  exact ha
def csBehind : CSs := (.cons (.asg (.nm 3) (.idx (.var 0) (.lit (.int 1))))
 (.cons (.frr (.nm 4) (.val (.var 1))
 (.cons (.asg (.nm 2) (.idx (.idx (.var 3) (.var 2)) (.var 4)))
 .nil))
 (.cons (.ret (.var 2))
 .nil)))
def csLBehind : CSs := (.cons (.frr (.nm 3) (.val (.var 1))
 (.cons (.asg (.nm 2) (.idx (.idx (.idx (.var 0) (.lit (.int 1))) (.var 2)) (.var 3)))
 .nil))
 (.cons (.ret (.var 2))
 .nil))
def csYes (i0 : Nat) : CSs := (.cons (.ret (.cmp .isIn (.call i0 (.cons (.var 0) (.cons (.var 1) (.cons (.idx (.var 0) (.lit (.int 2))) .nil)))) (.idx (.var 0) (.lit (.int 3))))) .nil)
theorem st_ok {s' : Int} (es : s' = s) (hP : P[i0]? = some ⟨3, 5, csBehind⟩) (ok : MachOk M) (hs0 : s < M.rows.length) (hb : ∀ a ∈ hs, a < M.many) (q : Q (.int ((go M s hs : Nat) : Int)) h) : Rr (run P fu (d + 1) i0 [encM M, encH hs, .int s'] h) Q := by
  subst es
  refine run_R hP rfl ?_
  simp only [csBehind, Ss_cons]
  simp [m1]
  obtain ⟨I, hI⟩ : ∃ I : Nat → Sg → EH → Prop, ∀ i s1 g, I i s1 g ↔ (∃ y : Option PV, s1 = [some (encM M), some (encH hs), some (.int ((go M s (hs.take i) : Nat) : Int)), some (.tup (M.rows.map encH)), y] ∧ g = h) := ⟨_, fun _ _ _ => Iff.rfl⟩
  refine for_st (xs := hs.map fun (a : Nat) => .int a) (h1 := h) I rfl ((hI _ _ _).mpr ⟨none, by simp [go], rfl⟩) ?_ ?_
  · intro i x s1 g hx hj
    obtain ⟨y, rfl, rfl⟩ := (hI _ _ _).mp hj
    rw [List.getElem?_map] at hx
    obtain ⟨a, ha, rfl⟩ := Option.map_eq_some_iff.mp hx
    have lt := go_lt ok (hs := hs.take i) hs0 fun b z => hb b (List.mem_of_mem_take z)
    simp [bindT, row_ix lt, cell_ix ok lt (hb a (List.mem_of_getElem? ha)), -List.getD_eq_getElem?_getD]
    refine (hI _ _ _).mpr ⟨some (.int a), ?_, rfl⟩
    rw [List.take_add_one, ha]
    simp [go]
  · intro s1 g hj
    obtain ⟨y, rfl, rfl⟩ := (hI _ _ _).mp hj
    simpa [retQ] using q
theorem lst_ok {s' : Int} (es : s' = s) (hP : P[i9]? = some ⟨3, 4, csLBehind⟩) (ok : MachOk M) (hs0 : s < M.rows.length) (hb : ∀ a ∈ hs, a < M.many) (q : Q (.int ((go M s hs : Nat) : Int)) h) : Rr (run P fu (d + 1) i9 [encM M, encH hs, .int s'] h) Q := by
  subst es
  refine run_R hP rfl ?_
  simp only [csLBehind, Ss_cons]
  simp
  obtain ⟨I, hI⟩ : ∃ I : Nat → Sg → EH → Prop, ∀ i s1 g, I i s1 g ↔ (∃ y : Option PV, s1 = [some (encM M), some (encH hs), some (.int ((go M s (hs.take i) : Nat) : Int)), y] ∧ g = h) := ⟨_, fun _ _ _ => Iff.rfl⟩
  refine for_st (xs := hs.map fun (a : Nat) => .int a) (h1 := h) I rfl ((hI _ _ _).mpr ⟨none, by simp [go], rfl⟩) ?_ ?_
  · intro i x s1 g hx hj
    obtain ⟨y, rfl, rfl⟩ := (hI _ _ _).mp hj
    rw [List.getElem?_map] at hx
    obtain ⟨a, ha, rfl⟩ := Option.map_eq_some_iff.mp hx
    have lt := go_lt ok (hs := hs.take i) hs0 fun b z => hb b (List.mem_of_mem_take z)
    simp [bindT, m1, row_ix lt, cell_ix ok lt (hb a (List.mem_of_getElem? ha)), -List.getD_eq_getElem?_getD]
    refine (hI _ _ _).mpr ⟨some (.int a), ?_, rfl⟩
    rw [List.take_add_one, ha]
    simp [go]
  · intro s1 g hj
    obtain ⟨y, rfl, rfl⟩ := (hI _ _ _).mp hj
    simpa [retQ] using q
theorem in_ints {x : Nat} {ys : List Nat} : isIn h (.int (x : Int)) (encH ys) = some (decide (x ∈ ys)) := by
  have e : mapO (toD h DF) (ys.map fun (y : Nat) => PV.int y) = some (ys.map fun (y : Nat) => PyData.int y) := by
    induction ys with
    | nil => rfl
    | cons y ys ih => simp only [List.map_cons, mapO, ih]; simp [toD, DF]
  have s1 : SeqAt.shaped (.int (x : Int)) = true := by simp [SeqAt.shaped, PyData.canLay0, PyData.depth]
  have s2 : SeqAt.shaped (.list (ys.map fun (y : Nat) => PyData.int y)) = true := by
    have a : PyData.canLayAll0 (ys.map fun (y : Nat) => PyData.int y) = true := by
      clear e
      induction ys with
      | nil => rfl
      | cons y ys ih => simp [PyData.canLayAll0, PyData.canLay0, ih]
    have b : PyData.depthAll (ys.map fun (y : Nat) => PyData.int y) = 0 := by
      clear e a
      induction ys with
      | nil => rfl
      | cons y ys ih => simp [PyData.depthAll, PyData.depth, ih]
    unfold SeqAt.shaped
    simp [PyData.canLay0, PyData.depth, a, b]
  have e2 : toD h DF (.int (x : Int)) = some (.int (x : Int)) := rfl
  show inD h (.int (x : Int)) (ys.map fun (y : Nat) => PV.int y) = _
  unfold inD
  rw [e, e2]
  simp only [s1, s2, and_self, if_true]
  congr 1
  clear e s2
  induction ys with
  | nil => rfl
  | cons y ys ih =>
    simp only [List.map_cons, List.any_cons, ih, PyData.eqv, List.mem_cons]
    by_cases c : x = y
    · subst c; simp
    · have : ((y : Int) == (x : Int)) = false := by simpa using fun z : (y : Int) = x => c (by omega)
      simp [this, c]
theorem c_inH {Qb : Bool → Prop} {x : Nat} {ys : List Nat} : R (opC .isIn (.int (x : Int)) (encH ys) h) Qb ↔ Qb (decide (x ∈ ys)) := by simp only [opC, in_ints, R_some]
theorem yes_ok (hP : P[i0]? = some ⟨3, 5, csBehind⟩) (hY : P[i1]? = some ⟨2, 2, csYes i0⟩) (ok : MachOk M) (hb : ∀ a ∈ hs, a < M.many) (q : Q (.bl (decide (go M M.first hs ∈ M.last))) h) : Rr (run P fu (d + 2) i1 [encM M, encH hs] h) Q := by
  refine run_R hY rfl ?_
  simp only [csYes, Ss_cons]
  simp [m2]
  refine st_ok (d := d) rfl hP ok ok.fst hb ?_
  simp only [m3, R_some, c_inH]
  exact q
end
end K10
end EV

set_option Elab.async false
set_option linter.all false
set_option maxRecDepth 100000
set_option maxHeartbeats 4000000
/-! K39: drawn orders, drawn tables. -/
namespace EV
open PySem PySem.Spec
namespace K39
open K59 (nl srt sorted_nl srt_mem srt_len)
def csMixed (ip : Nat) : CSs := (.cons (.asg (.nm 2) (.bi .list (.cons (.var 1) .nil)))
 (.cons (.ret (.comp (.meth .popAt (.var 2) (.cons (.call ip (.cons (.var 0) (.cons (.bi .len (.cons (.var 2) .nil)) .nil))) .nil)) (.nm 3) (.rng (.cons (.bi .len (.cons (.var 2) .nil)) .nil)) (.lit (.bl true)) [3]))
 .nil))
def csSome (ip im : Nat) : CSs := (.cons (.asg (.nm 2) (.slc false true (.call im (.cons (.var 0) (.cons (.lstR (.cons (.var 1) .nil)) .nil))) (.lit .non) (.bin .add (.lit (.int 1)) (.call ip (.cons (.var 0) (.cons (.bi .max (.cons (.lit (.int 1)) (.cons (.bin .sub (.var 1) (.lit (.int 1))) .nil))) .nil))))))
 (.cons (.ret (.bi .tuple (.cons (.bi .sorted (.cons (.var 2) .nil)) .nil)))
 .nil))
def csAny (ip : Nat) : CSs := (.cons (.ret (.bi .tuple (.cons (.comp (.bi .tuple (.cons (.comp (.call ip (.cons (.var 0) (.cons (.var 1) .nil))) (.nm 3) (.rng (.cons (.var 2) .nil)) (.lit (.bl true)) [3]) .nil)) (.nm 4) (.rng (.cons (.var 1) .nil)) (.lit (.bl true)) [4]) .nil)))
 .nil)
section
variable {P : List Fn} {fu d ip io im is : Nat} {n c : Nat} {h : EH} {Q : PV → EH → Prop} {ks : List Nat} {r : Nat}
theorem Src.new {g : EH} {o : EO} (s : Src n c g) : Src n c (g ++ [o]) := by
  obtain ⟨u, v⟩ := s.lt
  exact s.kp (M := []) (Kp.new (Nat.le_refl _)) u v (by simp) (by simp)
theorem b_listR {xs : List PV} (e : h[r]? = some (.lst xs)) : Rr (opBi .list [.ref r] h) Q ↔ Q (.ref h.length) (h ++ [.lst xs]) := by
  simp only [opBi, isLT, e, Rr_new]
theorem rl_nats : ∀ {m k : Nat}, rangeL (k : Int) 1 m = (List.range' k m).map fun (i : Nat) => PV.int i
  | 0, k => rfl
  | m + 1, k => by
    rw [rangeL, List.range'_succ, List.map_cons]
    have : ((k : Int) + 1) = ((k + 1 : Nat) : Int) := by omega
    rw [this, rl_nats]
theorem rl_nat {m : Nat} : rangeL 0 1 m = (List.range m).map fun (i : Nat) => PV.int i := by
  rw [List.range_eq_range']
  exact rl_nats (k := 0)
theorem m_popAt {xs : List PV} {i : Int} {k : Nat} {x : PV} (ei : i = k) (e : h[r]? = some (.lst xs)) (hl : xs.length ≤ 1000) (ex : xs[k]? = some x) : Rr (opMe .popAt (.ref r) [.int i] h) Q ↔ Q x (h.set r (.lst (xs.eraseIdx k))) := by
  subst ei
  have := (List.getElem?_eq_some_iff.mp ex).1
  simp only [opMe, e]
  rw [if_pos ⟨by omega, by omega, by omega⟩]
  simp only [Int.toNat_natCast, ex, Rr_some]
theorem erase_perm {α : Type} : ∀ {zs : List α} {k : Nat} {x : α}, zs[k]? = some x → (x :: zs.eraseIdx k).Perm zs
  | [], k, x, e => by simp at e
  | z :: zs, 0, x, e => by
    simp at e
    subst e
    exact List.Perm.refl _
  | z :: zs, k + 1, x, e => by
    have := erase_perm (zs := zs) (k := k) (by simpa using e)
    rw [List.eraseIdx_cons_succ]
    exact (List.Perm.swap z x _).trans (this.cons z)
theorem mixed_ok {t : Nat} {xs : List PV} (hP : P[ip]? = some ⟨2, 4, csPick⟩) (hM : P[im]? = some ⟨2, 4, csMixed ip⟩) (hs : Src n c h) (e : h[t]? = some (.lst xs)) (hl : xs.length ≤ 1000) (hfu : 100 < fu)
    (q : ∀ r ys g, h.length ≤ r → g[r]? = some (.lst ys) → ys.Perm xs → Src n c g → Kp [n, c] h.length h g → Q (.ref r) g) : Rr (run P fu (d + 2) im [.ref n, .ref t] h) Q := by
  refine run_R hM rfl ?_
  simp [csMixed]
  rw [b_listR e]
  have e1 : (h ++ [EO.lst xs])[h.length]? = some (.lst xs) := get_new
  rw [b_lenR e1]
  rw [range1 (small_of (by omega) (by omega))]
  simp only [R_some, wipeE]
  obtain ⟨u, v⟩ := hs.lt
  obtain ⟨I, hI⟩ : ∃ I : Nat → List PV → EH → Prop, ∀ i acc g, I i acc g ↔ (∃ zs, g[h.length]? = some (.lst zs) ∧ (acc ++ zs).Perm xs ∧ acc.length = i ∧ i ≤ xs.length ∧ Src n c g ∧ Kp [n, c] h.length h g) := ⟨_, fun _ _ _ => Iff.rfl⟩
  refine Cp_st I ((hI _ _ _).mpr ⟨xs, e1, List.Perm.refl _, rfl, Nat.zero_le _, Src.new hs, Kp.new (Nat.le_refl _)⟩) ?_ ?_
  · intro i acc x g hx hj
    obtain ⟨zs, ez, pz, hl1, hi, sg, kg⟩ := (hI _ _ _).mp hj
    have hi2 := (List.getElem?_eq_some_iff.mp hx).1
    rw [rangeL_len] at hi2
    have lz : acc.length + zs.length = xs.length := by rw [← List.length_append]; exact pz.length_eq
    simp [bindT, k_lst ez, b_lenR ez]
    refine pick_ok (d := d) hP sg (by omega) (by omega) hfu fun w g2 w0 w1 s2 k2 => ?_
    have ez2 := k2.get ez (get_lt ez) (by simp; omega)
    have hw : w.toNat < zs.length := by omega
    rw [m_popAt (k := w.toNat) (by omega) ez2 (by omega) (List.getElem?_eq_getElem hw)]
    refine ⟨by omega, (hI _ _ _).mpr ⟨zs.eraseIdx w.toNat, by rw [List.getElem?_set_self (get_lt ez2)], ?_, by simp [hl1], by omega, ?_, ?_⟩⟩
    · refine List.Perm.trans ?_ pz
      rw [List.append_assoc]
      exact (erase_perm (List.getElem?_eq_getElem hw)).append_left acc
    · obtain ⟨ys, l, m, tt, z⟩ := s2
      exact ⟨ys, l, m, tt, z.keep (List.getElem?_set_ne (by omega)) (List.getElem?_set_ne (by omega))⟩
    · exact (kg.trans (k2.less kg.2.1)).trans (Kp.set (by have := kg.2.1; have := k2.2.1; omega) (.inr (Nat.le_refl _)))
  · intro acc g hj
    obtain ⟨zs, ez, pz, hl1, hi, sg, kg⟩ := (hI _ _ _).mp hj
    rw [rangeL_len] at hl1
    have lz : acc.length + zs.length = xs.length := by rw [← List.length_append]; exact pz.length_eq
    have : zs = [] := List.eq_nil_of_length_eq_zero (by omega)
    subst this
    rw [List.append_nil] at pz
    have kg2 := kg.2.1
    exact q g.length acc _ kg2 get_new pz (Src.new sg) (kg.trans (Kp.new kg2))
end
end K39
end EV

set_option Elab.async false
set_option linter.all false
set_option maxRecDepth 100000
set_option maxHeartbeats 4000000
/-! K28: patterns: their parts, sizes, whether they have the empty history. -/
namespace EV
open PySem PySem.Spec
namespace K28
inductive Pt where
  | non | emp | sgn (s : Nat) | thn (a b : Pt) | orr (a b : Pt) | bth (a b : Pt) | nt (a : Pt) | agn (a : Pt) | few (a : Pt) | tak (x : Str) (a : Pt)
def enc : Pt → PV
  | .non => .tup [.str "none"]
  | .emp => .tup [.str "empty"]
  | .sgn s => .tup [.str "sign", .int (s : Nat)]
  | .thn a b => .tup [.str "then", enc a, enc b]
  | .orr a b => .tup [.str "or", enc a, enc b]
  | .bth a b => .tup [.str "both", enc a, enc b]
  | .nt a => .tup [.str "not", enc a]
  | .agn a => .tup [.str "again", enc a]
  | .few a => .tup [.str "few", enc a]
  | .tak x a => .tup [.str "take", .str x, enc a]
def inn : Pt → List Pt
  | .non => []
  | .emp => []
  | .sgn _ => []
  | .thn a b => [a, b]
  | .orr a b => [a, b]
  | .bth a b => [a, b]
  | .nt a => [a]
  | .agn a => [a]
  | .few a => [a]
  | .tak _ a => [a]
def dep : Pt → Nat
  | .non => 1
  | .emp => 1
  | .sgn _ => 1
  | .thn a b => max (dep a) (dep b) + 1
  | .orr a b => max (dep a) (dep b) + 1
  | .bth a b => max (dep a) (dep b) + 1
  | .nt a => dep a + 1
  | .agn a => dep a + 1
  | .few a => dep a + 1
  | .tak _ a => dep a + 1
def size : Pt → Nat
  | .non => 1
  | .emp => 1
  | .sgn _ => 1
  | .thn a b => 1 + size a + size b
  | .orr a b => 1 + size a + size b
  | .bth a b => 1 + size a + size b
  | .nt a => 1 + size a
  | .agn a => 1 + size a
  | .few a => 1 + size a
  | .tak _ a => 1 + size a
def parts : Pt → List Pt
  | .non => [.non]
  | .emp => [.emp]
  | .sgn s => [.sgn s]
  | .thn a b => .thn a b :: (parts a ++ parts b)
  | .orr a b => .orr a b :: (parts a ++ parts b)
  | .bth a b => .bth a b :: (parts a ++ parts b)
  | .nt a => .nt a :: parts a
  | .agn a => .agn a :: parts a
  | .few a => .few a :: parts a
  | .tak x a => .tak x a :: parts a
def hasE : Pt → Bool
  | .non => false
  | .emp => true
  | .sgn _ => false
  | .thn a b => hasE a && hasE b
  | .orr a b => hasE a || hasE b
  | .bth a b => hasE a && hasE b
  | .nt a => !hasE a
  | .agn _ => true
  | .few _ => true
  | .tak _ a => hasE a
theorem dep_pos (p : Pt) : 0 < dep p := by cases p <;> simp [dep]
theorem size_pos (p : Pt) : 0 < size p := by cases p <;> simp [size] <;> omega
theorem dep_inn {p q : Pt} (h : q ∈ inn p) : dep q < dep p := by
  cases p <;> simp [inn] at h <;> simp only [dep] <;> (first | omega | (rcases h with rfl | rfl <;> omega) | (subst h; omega))
theorem inn_len (p : Pt) : (inn p).length ≤ 2 := by cases p <;> simp [inn]
theorem parts_eq (p : Pt) : parts p = p :: ((inn p).map parts).flatten := by cases p <;> simp [parts, inn]
theorem parts_len (p : Pt) : (parts p).length = size p := by
  induction p <;> simp [parts, size] <;> omega
theorem parts_dep {p q : Pt} (h : q ∈ parts p) : dep q ≤ dep p := by
  induction p
  all_goals simp [parts] at h
  case non => subst h; exact Nat.le_refl _
  case emp => subst h; exact Nat.le_refl _
  case sgn => subst h; exact Nat.le_refl _
  case thn a b iha ihb => (rcases h with rfl | h | h); (· simp only [dep]; omega); (· have := iha h; simp only [dep]; omega); (· have := ihb h; simp only [dep]; omega)
  case orr a b iha ihb => (rcases h with rfl | h | h); (· simp only [dep]; omega); (· have := iha h; simp only [dep]; omega); (· have := ihb h; simp only [dep]; omega)
  case bth a b iha ihb => (rcases h with rfl | h | h); (· simp only [dep]; omega); (· have := iha h; simp only [dep]; omega); (· have := ihb h; simp only [dep]; omega)
  case nt a ih => (rcases h with rfl | h); (· simp only [dep]; omega); (· have := ih h; simp only [dep]; omega)
  case agn a ih => (rcases h with rfl | h); (· simp only [dep]; omega); (· have := ih h; simp only [dep]; omega)
  case few a ih => (rcases h with rfl | h); (· simp only [dep]; omega); (· have := ih h; simp only [dep]; omega)
  case tak x a ih => (rcases h with rfl | h); (· simp only [dep]; omega); (· have := ih h; simp only [dep]; omega)
/-! the walks -/
def kvI : List (Str × PV) := [("none", (.tup [])), ("empty", (.tup [])), ("sign", (.tup [])), ("then", (.tup [(.int 1), (.int 2)])), ("or", (.tup [(.int 1), (.int 2)])), ("both", (.tup [(.int 1), (.int 2)])), ("not", (.tup [(.int 1)])), ("again", (.tup [(.int 1)])), ("few", (.tup [(.int 1)])), ("take", (.tup [(.int 2)]))]
theorem lk_none : kvI.lookup ("none" : Str) = some (PV.tup []) := by decide +kernel
theorem lk_empty : kvI.lookup ("empty" : Str) = some (PV.tup []) := by decide +kernel
theorem lk_sign : kvI.lookup ("sign" : Str) = some (PV.tup []) := by decide +kernel
theorem lk_then : kvI.lookup ("then" : Str) = some (PV.tup [.int 1, .int 2]) := by decide +kernel
theorem lk_or : kvI.lookup ("or" : Str) = some (PV.tup [.int 1, .int 2]) := by decide +kernel
theorem lk_both : kvI.lookup ("both" : Str) = some (PV.tup [.int 1, .int 2]) := by decide +kernel
theorem lk_not : kvI.lookup ("not" : Str) = some (PV.tup [.int 1]) := by decide +kernel
theorem lk_again : kvI.lookup ("again" : Str) = some (PV.tup [.int 1]) := by decide +kernel
theorem lk_few : kvI.lookup ("few" : Str) = some (PV.tup [.int 1]) := by decide +kernel
theorem lk_take : kvI.lookup ("take" : Str) = some (PV.tup [.int 2]) := by decide +kernel
def csInner : CSs := (.cons (.ret (.comp (.idx (.var 0) (.var 1)) (.nm 1) (.val (.kix kvI (.idx (.var 0) (.lit (.int 0))))) (.lit (.bl true)) [1])) .nil)
def csParts (ii ip : Nat) : CSs := (.cons (.asg (.nm 1) (.lst (.cons (.var 0) .nil)))
 (.cons (.frr (.nm 2) (.val (.call ii (.cons (.var 0) .nil)))
 (.cons (.expr (.meth .extend (.var 1) (.cons (.call ip (.cons (.var 2) .nil)) .nil)))
 .nil))
 (.cons (.ret (.var 1))
 .nil)))
def csSize (ip : Nat) : CSs := (.cons (.ret (.bi .len (.cons (.call ip (.cons (.var 0) .nil)) .nil))) .nil)
section
variable {P : List Fn} {fu d ii ip is : Nat} {h : EH} {Q : PV → EH → Prop} {p : Pt}
theorem inner_ok (hP : P[ii]? = some ⟨1, 2, csInner⟩) (q : Q (.ref h.length) (h ++ [.lst ((inn p).map enc)])) : Rr (run P fu (d + 1) ii [enc p] h) Q := by
  refine run_R hP rfl ?_
  cases p <;> simp [csInner, enc, inn, seqAt, lk_none, lk_empty, lk_sign, lk_then, lk_or, lk_both, lk_not, lk_again, lk_few, lk_take, itrOf, Cp_S, CpS_cons, CpS_nil, wipeE, bindT, retQ] <;> first | exact q | exact ⟨by rw [sz]; decide, q⟩ | skip
theorem parts_ok (hI : P[ii]? = some ⟨1, 2, csInner⟩) (hP : P[ip]? = some ⟨1, 3, csParts ii ip⟩) (hfu : 100 < fu) : ∀ k (p : Pt) (h : EH) (d : Nat) (Q : PV → EH → Prop), dep p ≤ k → k + 1 ≤ d → size p ≤ 10000 →
    (∀ r g, h.length ≤ r → g[r]? = some (.lst ((parts p).map enc)) → Kp [] h.length h g → Q (.ref r) g) → Rr (run P fu d ip [enc p] h) Q := by
  intro k
  induction k with
  | zero => intro p h d Q hp; have := dep_pos p; omega
  | succ k ih =>
    intro p h d Q hp hd hz q
    obtain ⟨d, rfl⟩ : ∃ d', d = d' + 2 := ⟨d - 2, by omega⟩
    refine run_R hP rfl ?_
    simp [csParts]
    have hl := inn_len p
    obtain ⟨I, hJ⟩ : ∃ I : Nat → Nat → Sg → EH → Prop, ∀ r j s g, I r j s g ↔ (∃ m2 : Option PV, s = [some (enc p), some (.ref h.length), m2] ∧ g[r]? = some (.lst ((inn p).map enc)) ∧ j ≤ (inn p).length ∧ r = h.length + 1 ∧
      g[h.length]? = some (.lst ((p :: (((inn p).take j).map parts).flatten).map enc)) ∧ Kp [] h.length h g) := ⟨_, fun _ _ _ _ => Iff.rfl⟩
    refine for_L (ys := (inn p).map enc) I ?_ (by rw [List.length_map]; omega) ?_ ?_ ?_
    · simp
      refine inner_ok hI ?_
      simp [itrOf]
      refine (hJ _ _ _ _).mpr ⟨none, rfl, by simp, Nat.zero_le _, rfl, by simp, ?_⟩
      exact (Kp.new (Nat.le_refl _)).trans (Kp.less (Kp.new (n := (h ++ [EO.lst [enc p]]).length) (Nat.le_refl _)) (by simp)) |> fun z => by simpa using z
    · intro r j s g hj
      obtain ⟨m2, rfl, e, l, _⟩ := (hJ _ _ _ _).mp hj
      exact ⟨e, by rw [List.length_map]; exact l⟩
    · intro r j y s g hy hj
      obtain ⟨m2, rfl, e, l, rfl, e2, kg⟩ := (hJ _ _ _ _).mp hj
      rw [List.getElem?_map] at hy
      obtain ⟨c, hc, rfl⟩ := Option.map_eq_some_iff.mp hy
      have hm := List.mem_of_getElem? hc
      have hdc := dep_inn hm
      have hjl := (List.getElem?_eq_some_iff.mp hc).1
      have hzc : size c < size p ∧ (((inn p).take j).map parts).flatten.length + size c + 1 ≤ size p := by
        have e3 := congrArg List.length (parts_eq p)
        have e4 : (inn p) = (inn p).take j ++ c :: (inn p).drop (j + 1) := by
          refine (List.take_append_drop j (inn p)).symm.trans ?_
          rw [List.drop_eq_getElem_cons hjl, (List.getElem?_eq_some_iff.mp hc).2]
        rw [e4] at e3
        simp only [parts_len, List.map_append, List.map_cons, List.flatten_append, List.flatten_cons, List.length_append, List.length_cons] at e3
        omega
      simp [k_lst e2]
      refine ih c g (d + 1) _ (by omega) (by omega) (by omega) fun r2 g2 hr2 e3 k2 => ?_
      have kk := k2.less kg.2.1
      have e4 := k2.get e2 (get_lt e2) (by simp)
      have e5 := k2.get e (get_lt e) (by simp)
      rw [m_extend e4 e3 (by rw [List.length_map, List.length_cons, List.length_map, parts_len, sz]; omega)]
      refine (hJ _ _ _ _).mpr ⟨_, rfl, by rw [List.getElem?_set_ne (by omega)]; exact e5, hjl, rfl, ?_, ?_⟩
      · rw [List.getElem?_set_self (get_lt e4), List.take_add_one, hc]
        simp
      · exact (kg.trans kk).trans (Kp.set (by have := kg.2.1; have := k2.2.1; omega) (.inr (Nat.le_refl _)))
    · intro r s g hj
      obtain ⟨m2, rfl, e, l, rfl, e2, kg⟩ := (hJ _ _ _ _).mp hj
      simp
      refine q _ _ (Nat.le_refl _) ?_ kg
      rw [e2, parts_eq p]
      simp
theorem size_ok (hI : P[ii]? = some ⟨1, 2, csInner⟩) (hP : P[ip]? = some ⟨1, 3, csParts ii ip⟩) (hS : P[is]? = some ⟨1, 1, csSize ip⟩) (hfu : 100 < fu) (hd : dep p + 2 ≤ d) (hz : size p ≤ 10000)
    (q : ∀ g, Kp [] h.length h g → Q (.int (size p : Nat)) g) : Rr (run P fu d is [enc p] h) Q := by
  obtain ⟨d, rfl⟩ : ∃ d', d = d' + 1 := ⟨d - 1, by omega⟩
  refine run_R hS rfl ?_
  simp [csSize]
  refine parts_ok hI hP hfu (dep p) p h d _ (Nat.le_refl _) (by omega) hz fun r g hr e k => ?_
  rw [b_lenR e, List.length_map, parts_len]
  exact q g k
end
end K28
end EV

set_option Elab.async false
set_option linter.all false
set_option maxRecDepth 100000
set_option maxHeartbeats 4000000
/-! K28b: has_empty, is_search; the law's own sizes and empties. -/
namespace EV
open PySem PySem.Spec
namespace K28
def cTold (ii ih : Nat) : CE := (.comp (.call ih (.cons (.var 3) .nil)) (.nm 3) (.val (.call ii (.cons (.var 0) .nil))) (.lit (.bl true)) [3])
def csHas (ii ih : Nat) : CSs := (.cons (.asg (.nm 1) (.idx (.var 0) (.lit (.int 0))))
 (.cons (.ifs (.cmp .isIn (.var 1) (.tup (.cons (.lit (.str "empty")) (.cons (.lit (.str "again")) (.cons (.lit (.str "few")) .nil)))))
 (.cons (.ret (.lit (.bl true)))
 .nil)
 .nil)
 (.cons (.asg (.nm 2) (cTold ii ih))
 (.cons (.ifs (.cmp .eq (.var 1) (.lit (.str "or")))
 (.cons (.ret (.bi .any (.cons (.var 2) .nil)))
 .nil)
 .nil)
 (.cons (.ifs (.cmp .eq (.var 1) (.lit (.str "not")))
 (.cons (.ret (.nt (.idx (.var 2) (.lit (.int 0)))))
 .nil)
 .nil)
 (.cons (.ret (.and (.cmp .notIn (.var 1) (.tup (.cons (.lit (.str "none")) (.cons (.lit (.str "sign")) .nil)))) (.bi .all (.cons (.var 2) .nil))))
 .nil))))))
def csIsS (ip ih : Nat) : CSs := (.cons (.frr (.nm 1) (.val (.call ip (.cons (.var 0) .nil)))
 (.cons (.ifs (.cmp .isIn (.idx (.var 1) (.lit (.int 0))) (.tup (.cons (.lit (.str "both")) (.cons (.lit (.str "not")) .nil))))
 (.cons (.ret (.lit (.bl false)))
 .nil)
 .nil)
 (.cons (.ifs (.and (.cmp .isIn (.idx (.var 1) (.lit (.int 0))) (.tup (.cons (.lit (.str "again")) (.cons (.lit (.str "few")) .nil)))) (.call ih (.cons (.idx (.var 1) (.lit (.int 1))) .nil)))
 (.cons (.ret (.lit (.bl false)))
 .nil)
 .nil)
 .nil)))
 (.cons (.ret (.lit (.bl true)))
 .nil))
section
variable {P : List Fn} {fu d ii ip is ih il ie : Nat} {h : EH} {Q : PV → EH → Prop} {p : Pt}
theorem told_ok {x1 x2 x3 : Option PV} (hI : P[ii]? = some ⟨1, 2, csInner⟩) (hfu : 100 < fu)
    (IH : ∀ c ∈ inn p, ∀ (h : EH) (Q : PV → EH → Prop), (∀ g, Kp [] h.length h g → Q (.bl (hasE c)) g) → Rr (run P fu (d + 1) ih [enc c] h) Q)
    (q : ∀ r g, h.length ≤ r → g[r]? = some (.lst (((inn p).map hasE).map PV.bl)) → Kp [] h.length h g → Q (.ref r) g) : E (run P fu (d + 1)) fu (cTold ii ih) [some (enc p), x1, x2, x3] h Q := by
  have hl := inn_len p
  simp [cTold]
  refine inner_ok hI ?_
  simp [itrOf, wipeE]
  refine Cp_genJ (ys := (inn p).map enc) (r := h.length) [] (fun i x g => ∃ c, (inn p)[i]? = some c ∧ x = .bl (hasE c)) (fun g => g[h.length]? = some (.lst ((inn p).map enc)) ∧ Kp [] h.length h g) (fun i x g g' z _ => z) (by rw [List.length_map]; omega) (by rw [List.length_map]; omega) ⟨by simp, Kp.new (Nat.le_refl _)⟩ (fun g z => z.1) ?_ ?_
  · intro i y g hy ⟨e, kg⟩
    rw [List.getElem?_map] at hy
    obtain ⟨c, hc, rfl⟩ := Option.map_eq_some_iff.mp hy
    simp
    refine IH c (List.mem_of_getElem? hc) g _ fun g2 k2 => ⟨⟨c, hc, rfl⟩, k2, k2.get e (get_lt e) (by simp), kg.trans (k2.less kg.2.1)⟩
  · intro xs g hlen hx ⟨e, kg⟩
    have : xs = ((inn p).map hasE).map PV.bl := by
      refine List.ext_getElem? fun i => ?_
      cases hi : xs[i]? with
      | none =>
        have := List.getElem?_eq_none_iff.mp hi
        rw [List.getElem?_eq_none]
        simp at hlen ⊢
        omega
      | some x =>
        obtain ⟨c, hc, rfl⟩ := hx i x hi
        simp [hc]
    subst this
    exact q _ _ kg.2.1 get_new (kg.trans (Kp.new kg.2.1))
theorem has_ok (hI : P[ii]? = some ⟨1, 2, csInner⟩) (hH : P[ih]? = some ⟨1, 4, csHas ii ih⟩) (hfu : 100 < fu) : ∀ k (p : Pt) (h : EH) (d : Nat) (Q : PV → EH → Prop), dep p ≤ k → k + 1 ≤ d →
    (∀ g, Kp [] h.length h g → Q (.bl (hasE p)) g) → Rr (run P fu d ih [enc p] h) Q := by
  intro k
  induction k with
  | zero => intro p h d Q hp; have := dep_pos p; omega
  | succ k ihk =>
    intro p h d Q hp hd q
    obtain ⟨d, rfl⟩ : ∃ d', d = d' + 2 := ⟨d - 2, by omega⟩
    have told := fun (x1 x2 x3 : Option PV) (Q : PV → EH → Prop) => told_ok (P := P) (d := d) (h := h) (p := p) (ih := ih) (Q := Q) (x1 := x1) (x2 := x2) (x3 := x3) hI hfu (fun c hc h Q q => ihk c h (d + 1) Q (by have := dep_inn hc; omega) (by omega) q)
    have k0 : Kp [] h.length h h := Kp.refl (Nat.le_refl _)
    refine run_R hH rfl ?_
    cases p
    case non =>
      simp [csHas, enc, seqAt]
      (rw [w_in false]; rotate_left; · decide +kernel)
      simp
      refine told _ _ _ _ fun r g hr e kg => ?_
      try simp
      (rw [w_eq false]; rotate_left; · decide +kernel)
      simp
      (rw [w_eq false]; rotate_left; · decide +kernel)
      simp
      (rw [w_nin true]; rotate_left; · decide +kernel)
      simp [retQ]
      exact q _ kg
    case emp =>
      simp [csHas, enc, seqAt]
      (rw [w_in true]; rotate_left; · decide +kernel)
      simp [retQ]
      exact q _ k0
    case sgn =>
      simp [csHas, enc, seqAt]
      (rw [w_in false]; rotate_left; · decide +kernel)
      simp
      refine told _ _ _ _ fun r g hr e kg => ?_
      try simp
      (rw [w_eq false]; rotate_left; · decide +kernel)
      simp
      (rw [w_eq false]; rotate_left; · decide +kernel)
      simp
      (rw [w_nin true]; rotate_left; · decide +kernel)
      simp [retQ]
      exact q _ kg
    case thn =>
      simp [csHas, enc, seqAt]
      (rw [w_in false]; rotate_left; · decide +kernel)
      simp
      refine told _ _ _ _ fun r g hr e kg => ?_
      try simp
      (rw [w_eq false]; rotate_left; · decide +kernel)
      simp
      (rw [w_eq false]; rotate_left; · decide +kernel)
      simp
      (rw [w_nin false]; rotate_left; · decide +kernel)
      simp [b_all e, retQ]
      simpa [inn, hasE] using q _ kg
    case orr =>
      simp [csHas, enc, seqAt]
      (rw [w_in false]; rotate_left; · decide +kernel)
      simp
      refine told _ _ _ _ fun r g hr e kg => ?_
      try simp
      (rw [w_eq true]; rotate_left; · decide +kernel)
      simp [b_any e, retQ]
      simpa [inn, hasE] using q _ kg
    case bth =>
      simp [csHas, enc, seqAt]
      (rw [w_in false]; rotate_left; · decide +kernel)
      simp
      refine told _ _ _ _ fun r g hr e kg => ?_
      try simp
      (rw [w_eq false]; rotate_left; · decide +kernel)
      simp
      (rw [w_eq false]; rotate_left; · decide +kernel)
      simp
      (rw [w_nin false]; rotate_left; · decide +kernel)
      simp [b_all e, retQ]
      simpa [inn, hasE] using q _ kg
    case nt =>
      simp [csHas, enc, seqAt]
      (rw [w_in false]; rotate_left; · decide +kernel)
      simp
      refine told _ _ _ _ fun r g hr e kg => ?_
      try simp
      (rw [w_eq false]; rotate_left; · decide +kernel)
      simp
      (rw [w_eq true]; rotate_left; · decide +kernel)
      simp [x_lst e, retQ, inn, seqAt]
      simpa [hasE] using q _ kg
    case agn =>
      simp [csHas, enc, seqAt]
      (rw [w_in true]; rotate_left; · decide +kernel)
      simp [retQ]
      exact q _ k0
    case few =>
      simp [csHas, enc, seqAt]
      (rw [w_in true]; rotate_left; · decide +kernel)
      simp [retQ]
      exact q _ k0
    case tak =>
      simp [csHas, enc, seqAt]
      (rw [w_in false]; rotate_left; · decide +kernel)
      simp
      refine told _ _ _ _ fun r g hr e kg => ?_
      try simp
      (rw [w_eq false]; rotate_left; · decide +kernel)
      simp
      (rw [w_eq false]; rotate_left; · decide +kernel)
      simp
      (rw [w_nin false]; rotate_left; · decide +kernel)
      simp [b_all e, retQ]
      simpa [inn, hasE] using q _ kg
/-- a part that a search pattern has not -/
def bad : Pt → Bool
  | .bth _ _ => true
  | .nt _ => true
  | .agn a => hasE a
  | .few a => hasE a
  | _ => false
def isS (p : Pt) : Bool := (parts p).all fun c => !bad c
theorem isS_ok (hI : P[ii]? = some ⟨1, 2, csInner⟩) (hP : P[ip]? = some ⟨1, 3, csParts ii ip⟩) (hH : P[ih]? = some ⟨1, 4, csHas ii ih⟩) (hS : P[is]? = some ⟨1, 2, csIsS ip ih⟩) (hfu : 10000 < fu) (hd : dep p + 2 ≤ d) (hz : size p ≤ 9999)
    (q : ∀ g, Kp [] h.length h g → Q (.bl (isS p)) g) : Rr (run P fu d is [enc p] h) Q := by
  obtain ⟨d, rfl⟩ : ∃ d', d = d' + 1 := ⟨d - 1, by omega⟩
  refine run_R hS rfl ?_
  rw [csIsS, Ss_cons]
  obtain ⟨I, hJ⟩ : ∃ I : Nat → Nat → Sg → EH → Prop, ∀ r j s g, I r j s g ↔ (∃ m1 : Option PV, s = [some (enc p), m1] ∧ g[r]? = some (.lst ((parts p).map enc)) ∧ j ≤ (parts p).length ∧
      (∀ c ∈ (parts p).take j, bad c = false) ∧ Kp [] h.length h g) := ⟨_, fun _ _ _ _ => Iff.rfl⟩
  refine for_L (ys := (parts p).map enc) I ?_ (by rw [List.length_map, parts_len]; omega) ?_ ?_ ?_
  · simp
    refine parts_ok hI hP (by omega) (dep p) p h d _ (Nat.le_refl _) (by omega) (by omega) fun r g hr e k => ?_
    simp only [itrOf, e, R_some]
    exact ⟨r, rfl, (hJ _ _ _ _).mpr ⟨none, rfl, e, Nat.zero_le _, by simp, k⟩⟩
  · intro r j s g hj
    obtain ⟨m1, rfl, e, l, _⟩ := (hJ _ _ _ _).mp hj
    exact ⟨e, by rw [List.length_map]; exact l⟩
  · intro r j y s g hy hj
    obtain ⟨m1, rfl, e, l, hb, kg⟩ := (hJ _ _ _ _).mp hj
    rw [List.getElem?_map] at hy
    obtain ⟨c, hc, rfl⟩ := Option.map_eq_some_iff.mp hy
    have hjl := (List.getElem?_eq_some_iff.mp hc).1
    have hm := List.mem_of_getElem? hc
    have hdc := parts_dep hm
    have no : bad c = true → isS p = false := fun z => by
      unfold isS
      rw [List.all_eq_false]
      exact ⟨c, hm, by simp [z]⟩
    have nx : ∀ g2, bad c = false → Kp [] g.length g g2 → I r (j + 1) [some (enc p), some (enc c)] g2 := fun g2 z k2 => by
      refine (hJ _ _ _ _).mpr ⟨_, rfl, k2.get e (get_lt e) (by simp), hjl, ?_, kg.trans (k2.less kg.2.1)⟩
      intro c2 h2
      rw [List.take_add_one, hc] at h2
      simp at h2
      rcases h2 with h2 | rfl
      · exact hb _ h2
      · exact z
    have g0 : Kp [] g.length g g := Kp.refl (Nat.le_refl _)
    simp only [List.set_cons_succ, List.set_cons_zero]
    cases c
    case bth a b =>
      simp [enc, seqAt]
      (rw [w_in true]; rotate_left; · decide +kernel)
      simp [turn, retQ]
      have := q g kg
      rw [no rfl] at this
      exact this
    case nt a =>
      simp [enc, seqAt]
      (rw [w_in true]; rotate_left; · decide +kernel)
      simp [turn, retQ]
      have := q g kg
      rw [no rfl] at this
      exact this
    case agn a =>
      simp [enc, seqAt]
      (rw [w_in false]; rotate_left; · decide +kernel)
      simp
      (rw [w_in true]; rotate_left; · decide +kernel)
      simp
      refine has_ok hI hH (by omega) (dep a) a g d _ (Nat.le_refl _) (by simp only [dep] at hdc; omega) fun g2 k2 => ?_
      simp
      cases z : hasE a with
      | true =>
        simp [turn, retQ]
        have := q g2 (kg.trans (k2.less kg.2.1))
        rw [no z] at this
        exact this
      | false =>
        simp [turn]
        exact nx g2 z k2
    case few a =>
      simp [enc, seqAt]
      (rw [w_in false]; rotate_left; · decide +kernel)
      simp
      (rw [w_in true]; rotate_left; · decide +kernel)
      simp
      refine has_ok hI hH (by omega) (dep a) a g d _ (Nat.le_refl _) (by simp only [dep] at hdc; omega) fun g2 k2 => ?_
      simp
      cases z : hasE a with
      | true =>
        simp [turn, retQ]
        have := q g2 (kg.trans (k2.less kg.2.1))
        rw [no z] at this
        exact this
      | false =>
        simp [turn]
        exact nx g2 z k2
    all_goals
      simp [enc, seqAt]
      (rw [w_in false]; rotate_left; · decide +kernel)
      simp
      (rw [w_in false]; rotate_left; · decide +kernel)
      simp [turn]
      exact nx g rfl g0
  · intro r s g hj
    obtain ⟨m1, rfl, e, l, hb, kg⟩ := (hJ _ _ _ _).mp hj
    simp [retQ]
    have : isS p = true := by
      unfold isS
      rw [List.all_eq_true]
      intro c hc
      rw [List.length_map, List.take_length] at hb
      simp [hb c hc]
    have z := q g kg
    rw [this] at z
    exact z
end
end K28
end EV

set_option Elab.async false
set_option linter.all false
set_option maxRecDepth 100000
set_option maxHeartbeats 4000000
/-! K28c: the law's own sizes and empties. -/
namespace EV
open PySem PySem.Spec
namespace K28
open K59 (cut1)
def csLSize (il : Nat) : CSs := (.cons (.ret (.bin .add (.lit (.int 1)) (.bi .sum (.cons (.comp (.call il (.cons (.var 1) .nil)) (.nm 1) (.val (.slc true false (.var 0) (.lit (.int 1)) (.lit .non))) (.isI .tup (.var 1)) [1]) .nil)))) .nil)
def csLEmpty (ie : Nat) : CSs := (.cons (.asg (.nm 1) (.idx (.var 0) (.lit (.int 0))))
 (.cons (.ifs (.cmp .isIn (.var 1) (.tup (.cons (.lit (.str "then")) (.cons (.lit (.str "or")) .nil))))
 (.cons (.asg (.nm 2) (.lst (.cons (.call ie (.cons (.idx (.var 0) (.lit (.int 1))) .nil)) (.cons (.call ie (.cons (.idx (.var 0) (.lit (.int 2))) .nil)) .nil))))
 (.cons (.ret (.ife (.cmp .eq (.var 1) (.lit (.str "then"))) (.cmp .eq (.var 2) (.lst (.cons (.lit (.bl true)) (.cons (.lit (.bl true)) .nil)))) (.cmp .isIn (.lit (.bl true)) (.var 2))))
 .nil))
 .nil)
 (.cons (.ret (.or (.cmp .isIn (.var 1) (.tup (.cons (.lit (.str "empty")) (.cons (.lit (.str "again")) (.cons (.lit (.str "few")) .nil))))) (.and (.cmp .eq (.var 1) (.lit (.str "take"))) (.call ie (.cons (.idx (.var 0) (.lit (.int 2))) .nil)))))
 .nil)))
section
variable {P : List Fn} {fu d il ie : Nat} {h : EH} {Q : PV → EH → Prop} {p : Pt}


theorem sum0 : Rr (opBi .sum [.ref h.length] (h ++ [.lst []])) Q ↔ Q (.int 0) (h ++ [.lst []]) := b_sum (ns := []) get_new
theorem sum1 {a : Int} : Rr (opBi .sum [.ref h.length] (h ++ [.lst [.int a]])) Q ↔ Q (.int a) (h ++ [.lst [.int a]]) := by
  have := b_sum (h := h ++ [.lst [.int a]]) (n := h.length) (ns := [a]) (Q := Q) get_new
  simpa using this
theorem sum2 {a b : Int} : Rr (opBi .sum [.ref h.length] (h ++ [.lst [.int a, .int b]])) Q ↔ Q (.int (a + b)) (h ++ [.lst [.int a, .int b]]) := by
  have := b_sum (h := h ++ [.lst [.int a, .int b]]) (n := h.length) (ns := [a, b]) (Q := Q) get_new
  simpa using this
theorem t_enc {t : Ty} : isTy h t (enc p) = some (decide (t = .tup)) := by cases p <;> rfl
theorem lsize_ok (hS : P[il]? = some ⟨1, 2, csLSize il⟩) : ∀ k (p : Pt) (h : EH) (d : Nat) (Q : PV → EH → Prop), dep p ≤ k → k + 1 ≤ d →
    (∀ g, Kp [] h.length h g → Q (.int (size p : Nat)) g) → Rr (run P fu d il [enc p] h) Q := by
  intro k
  induction k with
  | zero => intro p h d Q hp; have := dep_pos p; omega
  | succ k ihk =>
    intro p h d Q hp hd q
    obtain ⟨d, rfl⟩ : ∃ d', d = d' + 1 := ⟨d - 1, by omega⟩
    refine run_R hS rfl ?_
    have q' : ∀ g (v : Int), v = (size p : Nat) → Kp [] h.length h g → Q (.int v) g := fun g v e k => e ▸ q g k
    cases p
    case non =>
      simp [csLSize, enc, partOf, opSl, cut1, itrOf, Cp_S, CpS_cons, CpS_nil, bindT, wipeE, sum0, retQ]
      exact q _ (Kp.new (Nat.le_refl _))
    case emp =>
      simp [csLSize, enc, partOf, opSl, cut1, itrOf, Cp_S, CpS_cons, CpS_nil, bindT, wipeE, sum0, retQ]
      exact q _ (Kp.new (Nat.le_refl _))
    case sgn =>
      simp [csLSize, enc, partOf, opSl, cut1, itrOf, Cp_S, CpS_cons, CpS_nil, bindT, wipeE, sum0, retQ]
      exact q _ (Kp.new (Nat.le_refl _))
    case nt a =>
      simp only [dep] at hp
      simp [csLSize, enc, partOf, opSl, cut1, itrOf, Cp_S, CpS_cons, bindT, wipeE, t_enc]
      refine ihk a h d _ (by omega) (by omega) fun g kg => ?_
      simp [CpS_nil, sum1, retQ]
      exact q' _ _ (by simp [size]) (kg.trans (Kp.new kg.2.1))
    case agn a =>
      simp only [dep] at hp
      simp [csLSize, enc, partOf, opSl, cut1, itrOf, Cp_S, CpS_cons, bindT, wipeE, t_enc]
      refine ihk a h d _ (by omega) (by omega) fun g kg => ?_
      simp [CpS_nil, sum1, retQ]
      exact q' _ _ (by simp [size]) (kg.trans (Kp.new kg.2.1))
    case few a =>
      simp only [dep] at hp
      simp [csLSize, enc, partOf, opSl, cut1, itrOf, Cp_S, CpS_cons, bindT, wipeE, t_enc]
      refine ihk a h d _ (by omega) (by omega) fun g kg => ?_
      simp [CpS_nil, sum1, retQ]
      exact q' _ _ (by simp [size]) (kg.trans (Kp.new kg.2.1))
    case tak x a =>
      simp only [dep] at hp
      simp [csLSize, enc, partOf, opSl, cut1, itrOf, Cp_S, CpS_cons, bindT, wipeE, t_enc]
      refine ihk a h d _ (by omega) (by omega) fun g kg => ?_
      simp [CpS_nil, sum1, retQ]
      exact q' _ _ (by simp [size]) (kg.trans (Kp.new kg.2.1))
    case thn a b =>
      simp only [dep] at hp
      simp [csLSize, enc, partOf, opSl, cut1, itrOf, Cp_S, CpS_cons, bindT, wipeE, t_enc]
      refine ihk a h d _ (by omega) (by omega) fun g kg => ?_
      try simp [CpS_cons, bindT, t_enc]
      refine ihk b g d _ (by omega) (by omega) fun g2 k2 => ?_
      have kg2 := kg.trans (k2.less kg.2.1)
      simp [CpS_nil, sum2, retQ]
      exact q' _ _ (by simp [size]; omega) (kg2.trans (Kp.new kg2.2.1))
    case orr a b =>
      simp only [dep] at hp
      simp [csLSize, enc, partOf, opSl, cut1, itrOf, Cp_S, CpS_cons, bindT, wipeE, t_enc]
      refine ihk a h d _ (by omega) (by omega) fun g kg => ?_
      try simp [CpS_cons, bindT, t_enc]
      refine ihk b g d _ (by omega) (by omega) fun g2 k2 => ?_
      have kg2 := kg.trans (k2.less kg.2.1)
      simp [CpS_nil, sum2, retQ]
      exact q' _ _ (by simp [size]; omega) (kg2.trans (Kp.new kg2.2.1))
    case bth a b =>
      simp only [dep] at hp
      simp [csLSize, enc, partOf, opSl, cut1, itrOf, Cp_S, CpS_cons, bindT, wipeE, t_enc]
      refine ihk a h d _ (by omega) (by omega) fun g kg => ?_
      try simp [CpS_cons, bindT, t_enc]
      refine ihk b g d _ (by omega) (by omega) fun g2 k2 => ?_
      have kg2 := kg.trans (k2.less kg.2.1)
      simp [CpS_nil, sum2, retQ]
      exact q' _ _ (by simp [size]; omega) (kg2.trans (Kp.new kg2.2.1))
/-- no both, no not -/
def nob : Pt → Bool
  | .non => true
  | .emp => true
  | .sgn _ => true
  | .thn a b => nob a && nob b
  | .orr a b => nob a && nob b
  | .bth _ _ => false
  | .nt _ => false
  | .agn a => nob a
  | .few a => nob a
  | .tak _ a => nob a
theorem two_eq {r : Nat} {a b : Bool} {Qb : Bool → Prop} (e : h[r]? = some (.lst [.bl a, .bl b])) : R (opC .eq (.ref r) (.ref h.length) (h ++ [.lst [.bl true, .bl true]])) Qb ↔ Qb (a && b) := by
  have e1 : (h ++ [EO.lst [.bl true, .bl true]])[r]? = some (.lst [.bl a, .bl b]) := by rw [List.getElem?_append_left (get_lt e)]; exact e
  have e2 : (h ++ [EO.lst [.bl true, .bl true]])[h.length]? = some (.lst [.bl true, .bl true]) := get_new
  have : eqD (h ++ [EO.lst [.bl true, .bl true]]) (.ref r) (.ref h.length) = some (a && b) := by
    unfold eqD
    have t1 : toD (h ++ [EO.lst [.bl true, .bl true]]) DF (.ref r) = some (.list [.bool a, .bool b]) := by simp only [DF, toD, e1, mapO]; rfl
    have t2 : toD (h ++ [EO.lst [.bl true, .bl true]]) DF (.ref h.length) = some (.list [.bool true, .bool true]) := by simp only [DF, toD, e2, mapO]; rfl
    rw [t1, t2]
    cases a <;> cases b <;> decide +kernel
  simp only [opC, this, R_some]
theorem two_in {r : Nat} {a b : Bool} {Qb : Bool → Prop} (e : h[r]? = some (.lst [.bl a, .bl b])) : R (opC .isIn (.bl true) (.ref r) h) Qb ↔ Qb (a || b) := by
  have : isIn h (.bl true) (.ref r) = some (a || b) := by
    simp only [isIn, e, inD]
    have t1 : mapO (toD h DF) [.bl a, .bl b] = some [.bool a, .bool b] := rfl
    have t2 : toD h DF (.bl true) = some (.bool true) := rfl
    rw [t1, t2]
    cases a <;> cases b <;> decide +kernel
  simp only [opC, this, R_some]
theorem lempty_ok (hS : P[ie]? = some ⟨1, 3, csLEmpty ie⟩) : ∀ k (p : Pt) (h : EH) (d : Nat) (Q : PV → EH → Prop), dep p ≤ k → k + 1 ≤ d → nob p = true →
    (∀ g, Kp [] h.length h g → Q (.bl (hasE p)) g) → Rr (run P fu d ie [enc p] h) Q := by
  intro k
  induction k with
  | zero => intro p h d Q hp; have := dep_pos p; omega
  | succ k ihk =>
    intro p h d Q hp hd hn q
    obtain ⟨d, rfl⟩ : ∃ d', d = d' + 1 := ⟨d - 1, by omega⟩
    refine run_R hS rfl ?_
    have k0 : Kp [] h.length h h := Kp.refl (Nat.le_refl _)
    cases p
    case non =>
      simp [csLEmpty, enc, seqAt]
      (rw [w_in false]; rotate_left; · decide +kernel)
      simp
      (rw [w_in false]; rotate_left; · decide +kernel)
      simp
      (rw [w_eq false]; rotate_left; · decide +kernel)
      simp [retQ]
      exact q _ k0
    case sgn s =>
      simp [csLEmpty, enc, seqAt]
      (rw [w_in false]; rotate_left; · decide +kernel)
      simp
      (rw [w_in false]; rotate_left; · decide +kernel)
      simp
      (rw [w_eq false]; rotate_left; · decide +kernel)
      simp [retQ]
      exact q _ k0
    case emp =>
      simp [csLEmpty, enc, seqAt]
      (rw [w_in false]; rotate_left; · decide +kernel)
      simp
      (rw [w_in true]; rotate_left; · decide +kernel)
      simp [retQ]
      exact q _ k0
    case agn a =>
      simp [csLEmpty, enc, seqAt]
      (rw [w_in false]; rotate_left; · decide +kernel)
      simp
      (rw [w_in true]; rotate_left; · decide +kernel)
      simp [retQ]
      exact q _ k0
    case few a =>
      simp [csLEmpty, enc, seqAt]
      (rw [w_in false]; rotate_left; · decide +kernel)
      simp
      (rw [w_in true]; rotate_left; · decide +kernel)
      simp [retQ]
      exact q _ k0
    case tak x a =>
      simp only [dep] at hp
      simp [csLEmpty, enc, seqAt]
      (rw [w_in false]; rotate_left; · decide +kernel)
      simp
      (rw [w_in false]; rotate_left; · decide +kernel)
      simp
      (rw [w_eq true]; rotate_left; · decide +kernel)
      simp [retQ]
      exact ihk a h d _ (by omega) (by omega) hn q
    case bth a b => cases hn
    case nt a => cases hn
    case thn a b =>
      simp only [dep] at hp
      simp only [nob, Bool.and_eq_true] at hn
      simp [csLEmpty, enc, seqAt]
      (rw [w_in true]; rotate_left; · decide +kernel)
      simp
      refine ihk a h d _ (by omega) (by omega) hn.1 fun g kg => ?_
      try simp
      refine ihk b g d _ (by omega) (by omega) hn.2 fun g2 k2 => ?_
      have kg2 := kg.trans (k2.less kg.2.1)
      have kg3 : Kp [] h.length h (g2 ++ [EO.lst [PV.bl (hasE a), PV.bl (hasE b)]]) := kg2.trans (Kp.new kg2.2.1)
      try simp
      (rw [w_eq true]; rotate_left; · decide +kernel)
      try simp
      have z := two_eq (h := g2 ++ [EO.lst [PV.bl (hasE a), PV.bl (hasE b)]]) (r := g2.length) (a := hasE a) (b := hasE b) (Qb := fun t => retQ Q (.rt (.bl t)) [some (.tup [.str "then", enc a, enc b]), some (.str "then"), some (.ref g2.length)] (g2 ++ [EO.lst [PV.bl (hasE a), PV.bl (hasE b)]] ++ [EO.lst [PV.bl true, PV.bl true]])) get_new
      simp at z
      refine z.mpr ?_
      have w := q _ (kg3.trans (Kp.new (o := .lst [.bl true, .bl true]) kg3.2.1))
      simpa [retQ, hasE] using w
    case orr a b =>
      simp only [dep] at hp
      simp only [nob, Bool.and_eq_true] at hn
      simp [csLEmpty, enc, seqAt]
      (rw [w_in true]; rotate_left; · decide +kernel)
      simp
      refine ihk a h d _ (by omega) (by omega) hn.1 fun g kg => ?_
      try simp
      refine ihk b g d _ (by omega) (by omega) hn.2 fun g2 k2 => ?_
      have kg2 := kg.trans (k2.less kg.2.1)
      have kg3 : Kp [] h.length h (g2 ++ [EO.lst [PV.bl (hasE a), PV.bl (hasE b)]]) := kg2.trans (Kp.new kg2.2.1)
      try simp
      (rw [w_eq false]; rotate_left; · decide +kernel)
      try simp
      rw [two_in get_new]
      exact q _ kg3
end
end K28
end EV

set_option Elab.async false
set_option linter.all false
set_option maxRecDepth 100000
set_option maxHeartbeats 4000000
/-! K28d: the moves: the program's and the law's own. -/
namespace EV
open PySem PySem.Spec
namespace K28
inductive Mv where
  | stop | go (b : Nat) | sign (s b : Nat) | choice (a b : Nat)
def encM : Mv → PV
  | .stop => .tup [.str "stop"]
  | .go b => .tup [.str "go", .int (b : Nat)]
  | .sign s b => .tup [.str "sign", .int (s : Nat), .int (b : Nat)]
  | .choice a b => .tup [.str "choice", .int (a : Nat), .int (b : Nat)]
def encB (m : Mv × Nat) : PV := .tup [encM m.1, .int (m.2 : Nat)]
def mvb : Pt → Nat → Nat → List (Mv × Nat)
  | .non, _, b => [(.stop, b)]
  | .emp, _, b => [(.go b, b)]
  | .sgn s, _, b => [(.sign s b, b)]
  | .thn p q, n, b => (.go (n + 1), b) :: (mvb p (n + 1) (n + 1 + size p) ++ mvb q (n + 1 + size p) b)
  | .orr p q, n, b => (.choice (n + 1) (n + 1 + size p), b) :: (mvb p (n + 1) b ++ mvb q (n + 1 + size p) b)
  | .bth _ _, _, _ => []
  | .nt _, _, _ => []
  | .agn p, n, b => (.choice (n + 1) b, b) :: mvb p (n + 1) n
  | .few p, n, b => (.choice b (n + 1), b) :: mvb p (n + 1) n
  | .tak _ p, n, b => (.go (n + 1), b) :: mvb p (n + 1) b
def mv (p : Pt) (n b : Nat) : List Mv := (mvb p n b).map Prod.fst
theorem mvb_len : ∀ (p : Pt) (n b : Nat), nob p = true → (mvb p n b).length = size p
  | .non, _, _, _ => rfl
  | .emp, _, _, _ => rfl
  | .sgn _, _, _, _ => rfl
  | .thn p q, n, b, h => by
    simp only [nob, Bool.and_eq_true] at h
    simp only [mvb, size, List.length_cons, List.length_append, mvb_len p _ _ h.1, mvb_len q _ _ h.2]
    omega
  | .orr p q, n, b, h => by
    simp only [nob, Bool.and_eq_true] at h
    simp only [mvb, size, List.length_cons, List.length_append, mvb_len p _ _ h.1, mvb_len q _ _ h.2]
    omega
  | .bth _ _, _, _, h => by cases h
  | .nt _, _, _, h => by cases h
  | .agn p, n, b, h => by
    simp only [nob] at h
    simp only [mvb, size, List.length_cons, mvb_len p _ _ h]
    omega
  | .few p, n, b, h => by
    simp only [nob] at h
    simp only [mvb, size, List.length_cons, mvb_len p _ _ h]
    omega
  | .tak _ p, n, b, h => by
    simp only [nob] at h
    simp only [mvb, size, List.length_cons, mvb_len p _ _ h]
    omega
def aGo : CSs := (.cons (.asg (.sub (.var 2) (.var 4)) (.tup (.cons (.tup (.cons (.lit (.str "go")) (.cons (.var 1) .nil))) (.cons (.var 1) .nil)))) .nil)
def aSign : CSs := (.cons (.asg (.sub (.var 2) (.var 4)) (.tup (.cons (.tup (.cons (.lit (.str "sign")) (.cons (.idx (.var 0) (.lit (.int 1))) (.cons (.var 1) .nil)))) (.cons (.var 1) .nil)))) .nil)
def aTake (ia : Nat) : CSs := (.cons (.asg (.sub (.var 2) (.var 4)) (.tup (.cons (.tup (.cons (.lit (.str "go")) (.cons (.bin .add (.var 4) (.lit (.int 1))) .nil))) (.cons (.var 1) .nil))))
 (.cons (.expr (.call ia (.cons (.idx (.var 0) (.lit (.int 2))) (.cons (.var 1) (.cons (.var 2) .nil)))))
 .nil))
def aTwo (is ia : Nat) : CSs := (.cons (.asg (.nm 5) (.bin .add (.bin .add (.var 4) (.lit (.int 1))) (.call is (.cons (.idx (.var 0) (.lit (.int 1))) .nil))))
 (.cons (.asg (.sub (.var 2) (.var 4)) (.tup (.cons (.ife (.cmp .eq (.var 3) (.lit (.str "then"))) (.tup (.cons (.lit (.str "go")) (.cons (.bin .add (.var 4) (.lit (.int 1))) .nil))) (.tup (.cons (.lit (.str "choice")) (.cons (.bin .add (.var 4) (.lit (.int 1))) (.cons (.var 5) .nil))))) (.cons (.var 1) .nil))))
 (.cons (.expr (.call ia (.cons (.idx (.var 0) (.lit (.int 1))) (.cons (.ife (.cmp .eq (.var 3) (.lit (.str "then"))) (.var 5) (.var 1)) (.cons (.var 2) .nil)))))
 (.cons (.expr (.call ia (.cons (.idx (.var 0) (.lit (.int 2))) (.cons (.var 1) (.cons (.var 2) .nil)))))
 .nil))))
def aOne (ia : Nat) : CSs := (.cons (.asg (.sub (.var 2) (.var 4)) (.tup (.cons (.ife (.cmp .eq (.var 3) (.lit (.str "again"))) (.tup (.cons (.lit (.str "choice")) (.cons (.bin .add (.var 4) (.lit (.int 1))) (.cons (.var 1) .nil)))) (.tup (.cons (.lit (.str "choice")) (.cons (.var 1) (.cons (.bin .add (.var 4) (.lit (.int 1))) .nil))))) (.cons (.var 1) .nil))))
 (.cons (.expr (.call ia (.cons (.idx (.var 0) (.lit (.int 1))) (.cons (.var 4) (.cons (.var 2) .nil)))))
 .nil))
def aAll (is ia : Nat) : CS := (.ifs (.cmp .eq (.var 3) (.lit (.str "empty")))
 aGo
 (.cons (.ifs (.cmp .eq (.var 3) (.lit (.str "sign")))
 aSign
 (.cons (.ifs (.cmp .eq (.var 3) (.lit (.str "take")))
 (aTake ia)
 (.cons (.ifs (.cmp .isIn (.var 3) (.tup (.cons (.lit (.str "then")) (.cons (.lit (.str "or")) .nil))))
 (aTwo is ia)
 (.cons (.ifs (.cmp .ne (.var 3) (.lit (.str "none")))
 (aOne ia)
 .nil)
 .nil))
 .nil))
 .nil))
 .nil))
def csAdd (is ia : Nat) : CSs := (.cons (.par [3, 4] (.cons (.idx (.var 0) (.lit (.int 0))) (.cons (.bi .len (.cons (.var 2) .nil)) .nil)))
 (.cons (.expr (.meth .append (.var 2) (.cons (.tup (.cons (.tup (.cons (.lit (.str "stop")) .nil)) (.cons (.var 1) .nil))) .nil)))
 (.cons (aAll is ia)
 .nil)))
section
variable {P : List Fn} {fu d ii ip is ia : Nat} {h : EH} {Q : PV → EH → Prop} {p : Pt}
structure TxtS (P : List Fn) (ii ip is : Nat) : Prop where
  i : P[ii]? = some ⟨1, 2, csInner⟩
  p : P[ip]? = some ⟨1, 3, csParts ii ip⟩
  s : P[is]? = some ⟨1, 1, csSize ip⟩
theorem add_ok (X : TxtS P ii ip is) (hA : P[ia]? = some ⟨3, 6, csAdd is ia⟩) (hfu : 100 < fu) : ∀ k (p : Pt) (b r : Nat) (xs : List (Mv × Nat)) (h : EH) (d : Nat) (Q : PV → EH → Prop), dep p ≤ k → k + 3 ≤ d → nob p = true → xs.length + size p ≤ 9000 →
    h[r]? = some (.lst (xs.map encB)) → (∀ g, g[r]? = some (.lst ((xs ++ mvb p xs.length b).map encB)) → Kp [r] h.length h g → Q .non g) → Rr (run P fu d ia [enc p, .int (b : Nat), .ref r] h) Q := by
  intro k
  induction k with
  | zero => intro p b r xs h d Q hp; have := dep_pos p; omega
  | succ k ihk =>
    intro p b r xs h d Q hp hd hn hz e q
    obtain ⟨d, rfl⟩ : ∃ d', d = d' + 1 := ⟨d - 1, by omega⟩
    refine run_R hA rfl ?_
    have hzp := size_pos p
    have e2 : ∀ v, (h.set r (.lst v))[r]? = some (.lst v) := fun v => List.getElem?_set_self (get_lt e)
    have kS : ∀ v, Kp [r] h.length h (h.set r v) := fun v => Kp.set (Nat.le_refl _) (.inl (by simp))
    have hset : ∀ w v, setIx (.ref r) (.int xs.length) v (h.set r (.lst (xs.map encB ++ [w]))) = some (h.set r (.lst (xs.map encB ++ [v]))) := fun w v => by
      rw [x_setL (k := xs.length) (e2 _) rfl (by simp)]
      simp [List.set_append]
    have hap : ∀ (v : PV) (Q : PV → EH → Prop), Rr (opMe .append (.ref r) [v] h) Q ↔ Q .non (h.set r (.lst (xs.map encB ++ [v]))) := fun v Q => m_append e (by rw [sz, List.length_map]; omega)
    cases p
    case non =>
      simp [csAdd, aAll, enc, seqAt, b_lenR e, bindAll, k_lst e, hap]
      (rw [w_eq false]; rotate_left; · decide +kernel)
      simp
      (rw [w_eq false]; rotate_left; · decide +kernel)
      simp
      (rw [w_eq false]; rotate_left; · decide +kernel)
      simp
      (rw [w_in false]; rotate_left; · decide +kernel)
      simp
      (rw [w_ne true]; rotate_left; · decide +kernel)
      simp [retQ]
      exact q _ (by rw [e2]; simp [mvb, encB, encM]) (kS _)
    case emp =>
      simp [csAdd, aAll, enc, seqAt, b_lenR e, bindAll, k_lst e, hap]
      (rw [w_eq true]; rotate_left; · decide +kernel)
      simp [aGo, hset, retQ]
      exact q _ (by rw [e2]; simp [mvb, encB, encM]) (kS _)
    case sgn s =>
      simp [csAdd, aAll, enc, seqAt, b_lenR e, bindAll, k_lst e, hap]
      (rw [w_eq false]; rotate_left; · decide +kernel)
      simp
      (rw [w_eq true]; rotate_left; · decide +kernel)
      simp [aSign, seqAt, hset, retQ]
      exact q _ (by rw [e2]; simp [mvb, encB, encM]) (kS _)
    case tak x a =>
      simp only [dep] at hp
      simp only [size] at hz
      simp [csAdd, aAll, enc, seqAt, b_lenR e, bindAll, k_lst e, hap]
      (rw [w_eq false]; rotate_left; · decide +kernel)
      simp
      (rw [w_eq false]; rotate_left; · decide +kernel)
      simp
      (rw [w_eq true]; rotate_left; · decide +kernel)
      simp [aTake, seqAt, hset]
      have e3 := e2 ((xs ++ [(Mv.go (xs.length + 1), b)]).map encB)
      simp [encB, encM] at e3
      refine ihk a b r (xs ++ [(.go (xs.length + 1), b)]) _ d _ (by omega) (by omega) hn (by simp; omega) (by simp [encB, encM]; exact e3) fun g e4 k4 => ?_
      simp [retQ]
      exact q _ (by rw [e4]; simp [mvb]) ((kS _).trans (k4.less (by simp)))
    case bth a b => cases hn
    case nt a => cases hn
    case agn a =>
      simp only [dep] at hp
      simp only [size] at hz
      simp [csAdd, aAll, enc, seqAt, b_lenR e, bindAll, k_lst e, hap]
      (rw [w_eq false]; rotate_left; · decide +kernel)
      simp
      (rw [w_eq false]; rotate_left; · decide +kernel)
      simp
      (rw [w_eq false]; rotate_left; · decide +kernel)
      simp
      (rw [w_in false]; rotate_left; · decide +kernel)
      simp
      (rw [w_ne false]; rotate_left; · decide +kernel)
      simp [aOne, seqAt]
      (rw [w_eq true]; rotate_left; · decide +kernel)
      simp [hset]
      have e3 := e2 ((xs ++ [(Mv.choice (xs.length + 1) b, b)]).map encB)
      simp [encB, encM] at e3
      refine ihk a xs.length r (xs ++ [(Mv.choice (xs.length + 1) b, b)]) _ d _ (by omega) (by omega) hn (by simp; omega) (by simp [encB, encM]; exact e3) fun g e4 k4 => ?_
      simp [retQ]
      exact q _ (by rw [e4]; simp [mvb]) ((kS _).trans (k4.less (by simp)))
    case few a =>
      simp only [dep] at hp
      simp only [size] at hz
      simp [csAdd, aAll, enc, seqAt, b_lenR e, bindAll, k_lst e, hap]
      (rw [w_eq false]; rotate_left; · decide +kernel)
      simp
      (rw [w_eq false]; rotate_left; · decide +kernel)
      simp
      (rw [w_eq false]; rotate_left; · decide +kernel)
      simp
      (rw [w_in false]; rotate_left; · decide +kernel)
      simp
      (rw [w_ne false]; rotate_left; · decide +kernel)
      simp [aOne, seqAt]
      (rw [w_eq false]; rotate_left; · decide +kernel)
      simp [hset]
      have e3 := e2 ((xs ++ [(Mv.choice b (xs.length + 1), b)]).map encB)
      simp [encB, encM] at e3
      refine ihk a xs.length r (xs ++ [(Mv.choice b (xs.length + 1), b)]) _ d _ (by omega) (by omega) hn (by simp; omega) (by simp [encB, encM]; exact e3) fun g e4 k4 => ?_
      simp [retQ]
      exact q _ (by rw [e4]; simp [mvb]) ((kS _).trans (k4.less (by simp)))
    case thn a a2 =>
      simp only [dep] at hp
      simp only [size] at hz
      simp only [nob, Bool.and_eq_true] at hn
      have za := size_pos a
      simp [csAdd, aAll, enc, seqAt, b_lenR e, bindAll, k_lst e, hap]
      (rw [w_eq false]; rotate_left; · decide +kernel)
      simp
      (rw [w_eq false]; rotate_left; · decide +kernel)
      simp
      (rw [w_eq false]; rotate_left; · decide +kernel)
      simp
      (rw [w_in true]; rotate_left; · decide +kernel)
      simp [aTwo, seqAt]
      refine size_ok X.i X.p X.s hfu (by omega) (by omega) fun g kg => ?_
      simp
      (rw [w_eq true]; rotate_left; · decide +kernel)
      simp
      have kh := e2 (xs.map encB ++ [PV.tup [PV.tup [PV.str "stop"], PV.int b]])
      have eg := kg.get kh (get_lt kh) (by simp)
      have gl := kg.2.1
      simp at gl
      have hr := get_lt e
      rw [x_setL (k := xs.length) eg rfl (by simp)]
      simp [List.set_append]
      (rw [w_eq true]; rotate_left; · decide +kernel)
      simp
      have kq : ∀ v, Kp [r] h.length h (g.set r v) := fun v => ((kS _).trans ((kg.more (M' := [r]) (by simp)).less (by simp))).trans (Kp.set (by omega) (.inl (by simp)))
      have hl : (g.set r (EO.lst [])).length = g.length := by simp
      rw [show ((xs.length : Int) + 1 + (size a : Nat)) = ((xs.length + 1 + size a : Nat) : Int) by omega]
      refine ihk a (xs.length + 1 + size a) r (xs ++ [(Mv.go (xs.length + 1), b)]) _ d _ (by omega) (by omega) hn.1 (by simp; omega) (by simpa [encB, encM] using List.getElem?_set_self (get_lt eg)) fun g4 e4 k4 => ?_
      have gl4 := k4.2.1
      simp at gl4
      try simp
      refine ihk a2 b r (xs ++ [(Mv.go (xs.length + 1), b)] ++ mvb a (xs ++ [(Mv.go (xs.length + 1), b)]).length (xs.length + 1 + size a)) _ d _ (by omega) (by omega) hn.2 (by simp [mvb_len _ _ _ hn.1]; omega) e4 fun g5 e5 k5 => ?_
      simp [retQ]
      refine q _ (by rw [e5]; simp [mvb, mvb_len _ _ _ hn.1, Nat.add_assoc, Nat.add_comm, Nat.add_left_comm]) (((kq _).trans (k4.less (by simp; omega))).trans (k5.less (by omega)))
    case orr a a2 =>
      simp only [dep] at hp
      simp only [size] at hz
      simp only [nob, Bool.and_eq_true] at hn
      have za := size_pos a
      simp [csAdd, aAll, enc, seqAt, b_lenR e, bindAll, k_lst e, hap]
      (rw [w_eq false]; rotate_left; · decide +kernel)
      simp
      (rw [w_eq false]; rotate_left; · decide +kernel)
      simp
      (rw [w_eq false]; rotate_left; · decide +kernel)
      simp
      (rw [w_in true]; rotate_left; · decide +kernel)
      simp [aTwo, seqAt]
      refine size_ok X.i X.p X.s hfu (by omega) (by omega) fun g kg => ?_
      simp
      (rw [w_eq false]; rotate_left; · decide +kernel)
      simp
      have kh := e2 (xs.map encB ++ [PV.tup [PV.tup [PV.str "stop"], PV.int b]])
      have eg := kg.get kh (get_lt kh) (by simp)
      have gl := kg.2.1
      simp at gl
      have hr := get_lt e
      rw [x_setL (k := xs.length) eg rfl (by simp)]
      simp [List.set_append]
      (rw [w_eq false]; rotate_left; · decide +kernel)
      simp
      have kq : ∀ v, Kp [r] h.length h (g.set r v) := fun v => ((kS _).trans ((kg.more (M' := [r]) (by simp)).less (by simp))).trans (Kp.set (by omega) (.inl (by simp)))
      have hl : (g.set r (EO.lst [])).length = g.length := by simp
      skip
      refine ihk a b r (xs ++ [(Mv.choice (xs.length + 1) (xs.length + 1 + size a), b)]) _ d _ (by omega) (by omega) hn.1 (by simp; omega) (by simpa [encB, encM] using List.getElem?_set_self (get_lt eg)) fun g4 e4 k4 => ?_
      have gl4 := k4.2.1
      simp at gl4
      try simp
      refine ihk a2 b r (xs ++ [(Mv.choice (xs.length + 1) (xs.length + 1 + size a), b)] ++ mvb a (xs ++ [(Mv.choice (xs.length + 1) (xs.length + 1 + size a), b)]).length b) _ d _ (by omega) (by omega) hn.2 (by simp [mvb_len _ _ _ hn.1]; omega) e4 fun g5 e5 k5 => ?_
      simp [retQ]
      refine q _ (by rw [e5]; simp [mvb, mvb_len _ _ _ hn.1, Nat.add_assoc, Nat.add_comm, Nat.add_left_comm]) (((kq _).trans (k4.less (by simp; omega))).trans (k5.less (by omega)))
end
end K28
end EV

set_option Elab.async false
set_option linter.all false
set_option maxRecDepth 100000
set_option maxHeartbeats 4000000
/-! K28e: moves_of; the law's own moves. -/
namespace EV
open PySem PySem.Spec
namespace K28
def csNum (is ia : Nat) : CSs := (.cons (.asg (.nm 1) (.lst .nil))
 (.cons (.expr (.call ia (.cons (.var 0) (.cons (.call is (.cons (.var 0) .nil)) (.cons (.var 1) .nil)))))
 (.cons (.ret (.var 1))
 .nil)))
def csMoves (iN : Nat) : CSs := (.cons (.ret (.bi .tuple (.cons (.comp (.var 1) (.tp [1, 2]) (.val (.call iN (.cons (.var 0) .nil))) (.lit (.bl true)) [1, 2]) .nil))) .nil)
def uLeaf : CSs := (.cons (.expr (.meth .append (.var 3) (.cons (.meth .get2 (.dict (.cons (.lit (.str "none")) (.cons (.tup (.cons (.lit (.str "stop")) .nil)) (.cons (.lit (.str "empty")) (.cons (.tup (.cons (.lit (.str "go")) (.cons (.var 2) .nil))) .nil))))) (.cons (.var 4) (.cons (.tup (.cons (.lit (.str "sign")) (.cons (.idx (.var 0) (.neg (.lit (.int 1)))) (.cons (.var 2) .nil)))) .nil))) .nil))) .nil)
def uTwo (il iu : Nat) : CSs := (.cons (.asg (.nm 6) (.bin .add (.var 5) (.call il (.cons (.idx (.var 0) (.lit (.int 1))) .nil))))
 (.cons (.expr (.meth .append (.var 3) (.cons (.ife (.cmp .eq (.var 4) (.lit (.str "then"))) (.tup (.cons (.lit (.str "go")) (.cons (.var 5) .nil))) (.tup (.cons (.lit (.str "choice")) (.cons (.var 5) (.cons (.var 6) .nil))))) .nil)))
 (.cons (.expr (.call iu (.cons (.idx (.var 0) (.lit (.int 1))) (.cons (.var 5) (.cons (.ife (.cmp .eq (.var 4) (.lit (.str "then"))) (.var 6) (.var 2)) (.cons (.var 3) .nil))))))
 (.cons (.expr (.call iu (.cons (.idx (.var 0) (.lit (.int 2))) (.cons (.var 6) (.cons (.var 2) (.cons (.var 3) .nil))))))
 .nil))))
def uOne (iu : Nat) : CSs := (.cons (.asg (.nm 7) (.dict (.cons (.lit (.str "again")) (.cons (.tup (.cons (.lit (.str "choice")) (.cons (.var 5) (.cons (.var 2) .nil)))) (.cons (.lit (.str "few")) (.cons (.tup (.cons (.lit (.str "choice")) (.cons (.var 2) (.cons (.var 5) .nil)))) .nil))))))
 (.cons (.expr (.meth .append (.var 3) (.cons (.meth .get2 (.var 7) (.cons (.var 4) (.cons (.tup (.cons (.lit (.str "go")) (.cons (.var 5) .nil))) .nil))) .nil)))
 (.cons (.expr (.call iu (.cons (.idx (.var 0) (.neg (.lit (.int 1)))) (.cons (.var 5) (.cons (.ife (.cmp .eq (.var 4) (.lit (.str "take"))) (.var 2) (.var 1)) (.cons (.var 3) .nil))))))
 .nil)))
def csPut (il iu : Nat) : CSs := (.cons (.par [4, 5] (.cons (.idx (.var 0) (.lit (.int 0))) (.cons (.bin .add (.var 1) (.lit (.int 1))) .nil)))
 (.cons (.ifs (.cmp .isIn (.var 4) (.tup (.cons (.lit (.str "none")) (.cons (.lit (.str "empty")) (.cons (.lit (.str "sign")) .nil)))))
 uLeaf
 (.cons (.ifs (.cmp .isIn (.var 4) (.tup (.cons (.lit (.str "then")) (.cons (.lit (.str "or")) .nil))))
 (uTwo il iu)
 (uOne iu))
 .nil))
 .nil))
def csLMoves (il iu : Nat) : CSs := (.cons (.asg (.nm 1) (.lst .nil))
 (.cons (.expr (.call iu (.cons (.var 0) (.cons (.lit (.int 0)) (.cons (.call il (.cons (.var 0) .nil)) (.cons (.var 1) .nil))))))
 (.cons (.ret (.var 1))
 .nil)))
section
variable {P : List Fn} {fu d ii ip is ia iN iM il iu iL : Nat} {h : EH} {Q : PV → EH → Prop} {p : Pt}
theorem num_ok (X : TxtS P ii ip is) (hA : P[ia]? = some ⟨3, 6, csAdd is ia⟩) (hN : P[iN]? = some ⟨1, 2, csNum is ia⟩) (hfu : 100 < fu) (hd : dep p + 4 ≤ d) (hn : nob p = true) (hz : size p ≤ 8000)
    (q : ∀ g, g[h.length]? = some (.lst ((mvb p 0 (size p)).map encB)) → Kp [] h.length h g → Q (.ref h.length) g) : Rr (run P fu d iN [enc p] h) Q := by
  obtain ⟨d, rfl⟩ : ∃ d', d = d' + 1 := ⟨d - 1, by omega⟩
  refine run_R hN rfl ?_
  simp [csNum]
  refine size_ok X.i X.p X.s hfu (by omega) (by omega) fun g kg => ?_
  have e0 : (h ++ [EO.lst []])[h.length]? = some (.lst (([] : List (Mv × Nat)).map encB)) := get_new
  have e := kg.get e0 (get_lt e0) (by simp)
  have kn : Kp [] h.length h g := (Kp.new (Nat.le_refl _)).trans (kg.less (by simp))
  refine add_ok X hA hfu (dep p) p (size p) h.length [] g d _ (Nat.le_refl _) (by omega) hn (by simp; omega) e fun g2 e2 k2 => ?_
  simp [retQ]
  refine q _ (by simpa using e2) ?_
  refine kn.trans ⟨kn.2.1, k2.2.1, fun m a b => k2.2.2 m (by have := kn.2.1; omega) (by simp; omega)⟩
theorem moves_ok (X : TxtS P ii ip is) (hA : P[ia]? = some ⟨3, 6, csAdd is ia⟩) (hN : P[iN]? = some ⟨1, 2, csNum is ia⟩) (hM : P[iM]? = some ⟨1, 3, csMoves iN⟩) (hfu : 10000 < fu) (hd : dep p + 5 ≤ d) (hn : nob p = true) (hz : size p ≤ 8000)
    (q : ∀ g, Kp [] h.length h g → Q (.tup ((mv p 0 (size p)).map encM)) g) : Rr (run P fu d iM [enc p] h) Q := by
  obtain ⟨d, rfl⟩ : ∃ d', d = d' + 1 := ⟨d - 1, by omega⟩
  refine run_R hM rfl ?_
  simp [csMoves]
  refine num_ok X hA hN (by omega) (by omega) hn hz fun g e kg => ?_
  simp [itrOf, e, wipeE]
  have hl := mvb_len p 0 (size p) hn
  refine Cp_J (fun i acc g' => g' = g ∧ i ≤ size p ∧ acc = ((mvb p 0 (size p)).take i).map fun m => encM m.1) (B := size p) (fun _ => by simp) (by omega) ⟨rfl, by omega, by simp⟩ ?_
  rintro i acc g' ⟨rfl, hi, rfl⟩
  refine ⟨hi, ((mvb p 0 (size p)).map encB)[i]?, by simp only [item, e], ?_⟩
  cases hy : ((mvb p 0 (size p)).map encB)[i]? with
  | none =>
    have := List.getElem?_eq_none_iff.mp hy
    rw [List.length_map] at this
    rw [List.take_of_length_le (by omega)]
    simp [b_tupR get_new, retQ]
    have := q _ (kg.trans (Kp.new (o := .lst ((mvb p 0 (size p)).map fun m => encM m.1)) kg.2.1))
    simpa [mv, Function.comp_def] using this
  | some y =>
    have hi2 := (List.getElem?_eq_some_iff.mp hy).1
    rw [List.getElem?_map] at hy
    obtain ⟨m, hm, rfl⟩ := Option.map_eq_some_iff.mp hy
    simp [encB, bindT, bindAll]
    rw [List.length_map] at hi2
    refine ⟨by omega, by omega, by simp [List.take_add_one, hm]⟩
theorem lf_non {x y z : PV} : (dget (dmerge [] [(.str "none", x), (.str "empty", y)]) (.str "none")).getD z = x := rfl
theorem lf_emp {x y z : PV} : (dget (dmerge [] [(.str "none", x), (.str "empty", y)]) (.str "empty")).getD z = y := rfl
theorem lf_sgn {x y z : PV} : (dget (dmerge [] [(.str "none", x), (.str "empty", y)]) (.str "sign")).getD z = z := rfl
theorem on_agn {x y z : PV} : (dget (dmerge [] [(.str "again", x), (.str "few", y)]) (.str "again")).getD z = x := rfl
theorem on_few {x y z : PV} : (dget (dmerge [] [(.str "again", x), (.str "few", y)]) (.str "few")).getD z = y := rfl
theorem on_tak {x y z : PV} : (dget (dmerge [] [(.str "again", x), (.str "few", y)]) (.str "take")).getD z = z := rfl
theorem m_get2 {n : Nat} {kvs : List (PV × PV)} {x : Str} {z : PV} (e : h[n]? = some (.dict kvs)) : Rr (opMe .get2 (.ref n) [.str x, z] h) Q ↔ Q ((dget kvs (.str x)).getD z) h := by
  simp only [opMe, isDc, e, keyOf, Rr_ok]
theorem k_get2 {n : Nat} {kvs : List (PV × PV)} (e : h[n]? = some (.dict kvs)) : meK h (.ref n) .get2 = true := by simp [meK, isDc, e]
theorem put_ok (hS : P[il]? = some ⟨1, 2, csLSize il⟩) (hU : P[iu]? = some ⟨4, 8, csPut il iu⟩) : ∀ k (p : Pt) (n b r : Nat) (xs : List Mv) (h : EH) (d : Nat) (Q : PV → EH → Prop), dep p ≤ k → k + 3 ≤ d → nob p = true → xs.length + size p ≤ 9000 →
    h[r]? = some (.lst (xs.map encM)) → (∀ g, g[r]? = some (.lst ((xs ++ mv p n b).map encM)) → Kp [r] h.length h g → Q .non g) → Rr (run P fu d iu [enc p, .int (n : Nat), .int (b : Nat), .ref r] h) Q := by
  intro k
  induction k with
  | zero => intro p n b r xs h d Q hp; have := dep_pos p; omega
  | succ k ihk =>
    intro p n b r xs h d Q hp hd hn hz e q
    obtain ⟨d, rfl⟩ : ∃ d', d = d' + 1 := ⟨d - 1, by omega⟩
    refine run_R hU rfl ?_
    have hzp := size_pos p
    have hlt := get_lt e
    have eo : ∀ o, (h ++ [o])[r]? = some (.lst (xs.map encM)) := fun o => by rw [List.getElem?_append_left hlt]; exact e
    have e2 : ∀ o v, ((h ++ [o]).set r (.lst v))[r]? = some (.lst v) := fun o v => List.getElem?_set_self (get_lt (eo o))
    have kS : ∀ o v, Kp [r] h.length h ((h ++ [o]).set r v) := fun o v => (Kp.new (Nat.le_refl _)).trans (Kp.set (by simp) (.inl (by simp)))
    have hap : ∀ (o : EO) (v : PV) (Q : PV → EH → Prop), Rr (opMe .append (.ref r) [v] (h ++ [o])) Q ↔ Q .non ((h ++ [o]).set r (.lst (xs.map encM ++ [v]))) := fun o v Q => m_append (eo o) (by rw [sz, List.length_map]; omega)
    cases p
    case non =>
      simp [csPut, enc, seqAt, bindAll]
      (rw [w_in true]; rotate_left; · decide +kernel)
      simp [uLeaf, k_lst e, pairUp, keyOf, seqAt, k_get2 get_new, m_get2 get_new, lf_non, hap, retQ]
      exact q _ (by rw [e2]; simp [mv, mvb, encM]) (kS _ _)
    case emp =>
      simp [csPut, enc, seqAt, bindAll]
      (rw [w_in true]; rotate_left; · decide +kernel)
      simp [uLeaf, k_lst e, pairUp, keyOf, seqAt, k_get2 get_new, m_get2 get_new, lf_emp, hap, retQ]
      exact q _ (by rw [e2]; simp [mv, mvb, encM]) (kS _ _)
    case sgn s =>
      simp [csPut, enc, seqAt, bindAll]
      (rw [w_in true]; rotate_left; · decide +kernel)
      simp [uLeaf, k_lst e, pairUp, keyOf, seqAt, k_get2 get_new, m_get2 get_new, lf_sgn, hap, retQ]
      exact q _ (by rw [e2]; simp [mv, mvb, encM]) (kS _ _)
    case bth a b => cases hn
    case nt a => cases hn
    case agn a =>
      simp only [dep] at hp
      simp only [size] at hz
      simp [csPut, enc, seqAt, bindAll]
      (rw [w_in false]; rotate_left; · decide +kernel)
      simp
      (rw [w_in false]; rotate_left; · decide +kernel)
      simp [uOne, pairUp, keyOf, k_lst (eo _), k_get2 get_new, m_get2 get_new, on_agn, hap, seqAt]
      (rw [w_eq false]; rotate_left; · decide +kernel)
      simp
      refine ihk a (n + 1) n r (xs ++ [Mv.choice (n + 1) b]) _ d _ (by omega) (by omega) hn (by simp; omega) (by rw [e2]; simp [encM]) fun g e4 k4 => ?_
      simp [retQ]
      exact q _ (by rw [e4]; simp [mv, mvb]) ((kS _ _).trans (k4.less (by simp)))
    case few a =>
      simp only [dep] at hp
      simp only [size] at hz
      simp [csPut, enc, seqAt, bindAll]
      (rw [w_in false]; rotate_left; · decide +kernel)
      simp
      (rw [w_in false]; rotate_left; · decide +kernel)
      simp [uOne, pairUp, keyOf, k_lst (eo _), k_get2 get_new, m_get2 get_new, on_few, hap, seqAt]
      (rw [w_eq false]; rotate_left; · decide +kernel)
      simp
      refine ihk a (n + 1) n r (xs ++ [Mv.choice b (n + 1)]) _ d _ (by omega) (by omega) hn (by simp; omega) (by rw [e2]; simp [encM]) fun g e4 k4 => ?_
      simp [retQ]
      exact q _ (by rw [e4]; simp [mv, mvb]) ((kS _ _).trans (k4.less (by simp)))
    case tak x a =>
      simp only [dep] at hp
      simp only [size] at hz
      simp [csPut, enc, seqAt, bindAll]
      (rw [w_in false]; rotate_left; · decide +kernel)
      simp
      (rw [w_in false]; rotate_left; · decide +kernel)
      simp [uOne, pairUp, keyOf, k_lst (eo _), k_get2 get_new, m_get2 get_new, on_tak, hap, seqAt]
      (rw [w_eq true]; rotate_left; · decide +kernel)
      simp
      refine ihk a (n + 1) b r (xs ++ [Mv.go (n + 1)]) _ d _ (by omega) (by omega) hn (by simp; omega) (by rw [e2]; simp [encM]) fun g e4 k4 => ?_
      simp [retQ]
      exact q _ (by rw [e4]; simp [mv, mvb]) ((kS _ _).trans (k4.less (by simp)))
    case thn a a2 =>
      simp only [dep] at hp
      simp only [size] at hz
      simp only [nob, Bool.and_eq_true] at hn
      have za := size_pos a
      have zm : (mv a (n + 1) (n + 1 + size a)).length = size a := by simp [mv, mvb_len _ _ _ hn.1]
      simp [csPut, enc, seqAt, bindAll]
      (rw [w_in false]; rotate_left; · decide +kernel)
      simp
      (rw [w_in true]; rotate_left; · decide +kernel)
      simp [uTwo, seqAt]
      refine lsize_ok hS (dep a) a h d _ (Nat.le_refl _) (by omega) fun g kg => ?_
      have eg := kg.get e hlt (by simp)
      have gl := kg.2.1
      simp [k_lst eg]
      (rw [w_eq true]; rotate_left; · decide +kernel)
      simp
      rw [m_append eg (by rw [sz, List.length_map]; omega)]
      (rw [w_eq true]; rotate_left; · decide +kernel)
      simp
      have kq : ∀ v, Kp [r] h.length h (g.set r v) := fun v => (kg.more (M' := [r]) (by simp)).trans (Kp.set (by omega) (.inl (by simp)))
      rw [show ((n : Int) + 1 + (size a : Nat)) = ((n + 1 + size a : Nat) : Int) by omega]
      refine ihk a (n + 1) (n + 1 + size a) r (xs ++ [Mv.go (n + 1)]) _ d _ (by omega) (by omega) hn.1 (by simp; omega) (by rw [List.getElem?_set_self (get_lt eg)]; simp [encM]) fun g4 e4 k4 => ?_
      have gl4 := k4.2.1
      simp at gl4
      try simp
      skip
      refine ihk a2 (n + 1 + size a) b r (xs ++ [Mv.go (n + 1)] ++ mv a (n + 1) (n + 1 + size a)) _ d _ (by omega) (by omega) hn.2 (by simp [zm]; omega) e4 fun g5 e5 k5 => ?_
      simp [retQ]
      refine q _ (by rw [e5]; simp [mv, mvb]) (((kq _).trans (k4.less (by simp; omega))).trans (k5.less (by omega)))
    case orr a a2 =>
      simp only [dep] at hp
      simp only [size] at hz
      simp only [nob, Bool.and_eq_true] at hn
      have za := size_pos a
      have zm : (mv a (n + 1) b).length = size a := by simp [mv, mvb_len _ _ _ hn.1]
      simp [csPut, enc, seqAt, bindAll]
      (rw [w_in false]; rotate_left; · decide +kernel)
      simp
      (rw [w_in true]; rotate_left; · decide +kernel)
      simp [uTwo, seqAt]
      refine lsize_ok hS (dep a) a h d _ (Nat.le_refl _) (by omega) fun g kg => ?_
      have eg := kg.get e hlt (by simp)
      have gl := kg.2.1
      simp [k_lst eg]
      (rw [w_eq false]; rotate_left; · decide +kernel)
      simp
      rw [m_append eg (by rw [sz, List.length_map]; omega)]
      (rw [w_eq false]; rotate_left; · decide +kernel)
      simp
      have kq : ∀ v, Kp [r] h.length h (g.set r v) := fun v => (kg.more (M' := [r]) (by simp)).trans (Kp.set (by omega) (.inl (by simp)))
      skip
      refine ihk a (n + 1) b r (xs ++ [Mv.choice (n + 1) (n + 1 + size a)]) _ d _ (by omega) (by omega) hn.1 (by simp; omega) (by rw [List.getElem?_set_self (get_lt eg)]; simp [encM]) fun g4 e4 k4 => ?_
      have gl4 := k4.2.1
      simp at gl4
      try simp
      rw [show ((n : Int) + 1 + (size a : Nat)) = ((n + 1 + size a : Nat) : Int) by omega]
      refine ihk a2 (n + 1 + size a) b r (xs ++ [Mv.choice (n + 1) (n + 1 + size a)] ++ mv a (n + 1) b) _ d _ (by omega) (by omega) hn.2 (by simp [zm]; omega) e4 fun g5 e5 k5 => ?_
      simp [retQ]
      refine q _ (by rw [e5]; simp [mv, mvb]) (((kq _).trans (k4.less (by simp; omega))).trans (k5.less (by omega)))
theorem lmoves_ok (hS : P[il]? = some ⟨1, 2, csLSize il⟩) (hU : P[iu]? = some ⟨4, 8, csPut il iu⟩) (hL : P[iL]? = some ⟨1, 2, csLMoves il iu⟩) (hd : dep p + 4 ≤ d) (hn : nob p = true) (hz : size p ≤ 8000)
    (q : ∀ g, g[h.length]? = some (.lst ((mv p 0 (size p)).map encM)) → Kp [] h.length h g → Q (.ref h.length) g) : Rr (run P fu d iL [enc p] h) Q := by
  obtain ⟨d, rfl⟩ : ∃ d', d = d' + 1 := ⟨d - 1, by omega⟩
  refine run_R hL rfl ?_
  simp [csLMoves]
  refine lsize_ok hS (dep p) p _ d _ (Nat.le_refl _) (by omega) fun g kg => ?_
  have e0 : (h ++ [EO.lst []])[h.length]? = some (.lst (([] : List Mv).map encM)) := get_new
  have e := kg.get e0 (get_lt e0) (by simp)
  have kn : Kp [] h.length h g := (Kp.new (Nat.le_refl _)).trans (kg.less (by simp))
  refine put_ok hS hU (dep p) p 0 (size p) h.length [] g d _ (Nat.le_refl _) (by omega) hn (by simp; omega) e fun g2 e2 k2 => ?_
  simp [retQ]
  refine q _ (by simpa using e2) ?_
  refine kn.trans ⟨kn.2.1, k2.2.1, fun m a b => k2.2.2 m (by have := kn.2.1; omega) (by simp; omega)⟩
end
end K28
end EV

set_option Elab.async false
set_option linter.all false
set_option maxRecDepth 100000
set_option maxHeartbeats 4000000
/-! K28f: where a row of choices leads. -/
namespace EV
open PySem PySem.Spec
namespace K28
def stp (ms : List Mv) (tx row : List Nat) : Nat × Nat × Nat → Option (Nat × Nat × Nat)
  | (n, t, u) => match ms[n]? with
    | none => none
    | some .stop => none
    | some (.go b) => some (b, t, u)
    | some (.sign s b) => if tx[t]? = some s then some (b, t + 1, u) else none
    | some (.choice a b) => match row[u]? with
      | none => none
      | some c => some (if c = 0 then a else b, t, u + 1)
def tgB (L : Nat) : Mv → Bool
  | .stop => true
  | .go b => decide (b ≤ L)
  | .sign _ b => decide (b ≤ L)
  | .choice a b => decide (a ≤ L) && decide (b ≤ L)
structure WF (ms : List Mv) : Prop where
  tg : ∀ m ∈ ms, tgB ms.length m = true
  go : ∀ n b, ms[n]? = some (Mv.go b) → n < b ∨ ∃ a c, ms[b]? = some (Mv.choice a c)
def rk (ms : List Mv) (n : Nat) : Nat := match ms[n]? with
  | some (.go _) => ms.length + 1 - n
  | _ => 0
def mu (ms : List Mv) (tx row : List Nat) : Nat × Nat × Nat → Nat
  | (n, t, u) => ((tx.length - t) + (row.length - u)) * (ms.length + 2) + rk ms n
def inB (ms : List Mv) (tx row : List Nat) : Nat × Nat × Nat → Prop
  | (n, t, u) => n ≤ ms.length ∧ t ≤ tx.length ∧ u ≤ row.length
section
variable {ms : List Mv} {tx row : List Nat} {s s' : Nat × Nat × Nat}
theorem rk_le (n : Nat) : rk ms n ≤ ms.length + 1 := by
  unfold rk
  split <;> omega
theorem stp_ok (w : WF ms) (b : inB ms tx row s) (e : stp ms tx row s = some s') : inB ms tx row s' ∧ mu ms tx row s' < mu ms tx row s := by
  obtain ⟨n, t, u⟩ := s
  obtain ⟨b1, b2, b3⟩ := b
  unfold stp at e
  simp only at e
  split at e
  · cases e
  · cases e
  · rename_i b hb
    cases e
    have t1 := w.tg _ (List.mem_of_getElem? hb)
    have hn := (List.getElem?_eq_some_iff.mp hb).1
    refine ⟨⟨by simpa [tgB] using t1, b2, b3⟩, ?_⟩
    simp only [mu]
    refine Nat.add_lt_add_left ?_ _
    have r1 : rk ms n = ms.length + 1 - n := by simp only [rk, hb]
    rw [r1]
    rcases w.go n b hb with z | ⟨a, c, z⟩
    · unfold rk
      split <;> omega
    · have : rk ms b = 0 := by simp only [rk, z]
      omega
  · rename_i c b hb
    split at e
    · rename_i ht
      cases e
      have hlt := (List.getElem?_eq_some_iff.mp ht).1
      have t1 := w.tg _ (List.mem_of_getElem? hb)
      refine ⟨⟨by simpa [tgB] using t1, by omega, b3⟩, ?_⟩
      simp only [mu]
      have r1 := rk_le (ms := ms) b
      have : (tx.length - t + (row.length - u)) = (tx.length - (t + 1) + (row.length - u)) + 1 := by omega
      rw [this, Nat.succ_mul]
      omega
    · cases e
  · rename_i a b hb
    split at e
    · cases e
    · rename_i c hc
      cases e
      have hlt := (List.getElem?_eq_some_iff.mp hc).1
      have t1 := w.tg _ (List.mem_of_getElem? hb)
      simp [tgB] at t1
      refine ⟨⟨by split <;> omega, b2, by omega⟩, ?_⟩
      simp only [mu]
      have r1 := rk_le (ms := ms) (if c = 0 then a else b)
      have : (tx.length - t + (row.length - u)) = (tx.length - t + (row.length - (u + 1))) + 1 := by omega
      rw [this, Nat.succ_mul]
      omega
def fin (ms : List Mv) (tx row : List Nat) : Nat → Nat × Nat × Nat → Nat × Nat × Nat
  | 0, s => s
  | k + 1, s => match stp ms tx row s with
    | none => s
    | some s' => fin ms tx row k s'
theorem fin_st (w : WF ms) : ∀ (k : Nat) (s : Nat × Nat × Nat) (j : Nat), inB ms tx row s → mu ms tx row s ≤ k → mu ms tx row s ≤ j → fin ms tx row k s = fin ms tx row j s
  | 0, s, j, b, hk, hj => by
    cases j with
    | zero => rfl
    | succ j =>
      simp only [fin]
      split
      · rfl
      · rename_i s' e
        have := (stp_ok w b e).2
        omega
  | k + 1, s, j, b, hk, hj => by
    cases j with
    | zero =>
      simp only [fin]
      split
      · rfl
      · rename_i s' e
        have := (stp_ok w b e).2
        omega
    | succ j =>
      simp only [fin]
      split
      · rfl
      · rename_i s' e
        obtain ⟨b', l⟩ := stp_ok w b e
        exact fin_st w k s' j b' (by omega) (by omega)
/-- where it ends -/
def F (ms : List Mv) (tx row : List Nat) (s : Nat × Nat × Nat) : Nat × Nat × Nat := fin ms tx row (mu ms tx row s) s
theorem F_end (e : stp ms tx row s = none) : F ms tx row s = s := by
  unfold F
  cases mu ms tx row s with
  | zero => rfl
  | succ k => simp only [fin, e]
theorem F_step (w : WF ms) (b : inB ms tx row s) (e : stp ms tx row s = some s') : F ms tx row s = F ms tx row s' := by
  obtain ⟨b', l⟩ := stp_ok w b e
  unfold F
  obtain ⟨m, hm⟩ : ∃ m, mu ms tx row s = m + 1 := ⟨mu ms tx row s - 1, by omega⟩
  rw [hm]
  simp only [fin, e]
  exact fin_st w m s' _ b' (by omega) (Nat.le_refl _)
/-! the moves of a pattern -/
theorem mv_tg {N : Nat} : ∀ (p : Pt) (n b : Nat), nob p = true → n + size p ≤ N → b ≤ N → ∀ m ∈ mvb p n b, tgB N m.1 = true
  | .non, n, b, _, h, hb, m, hm => by simp [mvb] at hm; subst hm; rfl
  | .emp, n, b, _, h, hb, m, hm => by simp [mvb] at hm; subst hm; simp [tgB, hb]
  | .sgn s, n, b, _, h, hb, m, hm => by simp [mvb] at hm; subst hm; simp [tgB, hb]
  | .thn p q, n, b, hn, h, hb, m, hm => by
    simp only [nob, Bool.and_eq_true] at hn
    simp only [size] at h
    have := size_pos p
    have := size_pos q
    simp [mvb] at hm
    rcases hm with rfl | hm | hm
    · simp [tgB]; omega
    · exact mv_tg p _ _ hn.1 (by omega) (by omega) m hm
    · exact mv_tg q _ _ hn.2 (by omega) (by omega) m hm
  | .orr p q, n, b, hn, h, hb, m, hm => by
    simp only [nob, Bool.and_eq_true] at hn
    simp only [size] at h
    have := size_pos p
    have := size_pos q
    simp [mvb] at hm
    rcases hm with rfl | hm | hm
    · simp [tgB]; omega
    · exact mv_tg p _ _ hn.1 (by omega) (by omega) m hm
    · exact mv_tg q _ _ hn.2 (by omega) (by omega) m hm
  | .bth _ _, _, _, hn, _, _, _, _ => by cases hn
  | .nt _, _, _, hn, _, _, _, _ => by cases hn
  | .agn p, n, b, hn, h, hb, m, hm => by
    simp only [size] at h
    have := size_pos p
    simp [mvb] at hm
    rcases hm with rfl | hm
    · simp [tgB]; omega
    · exact mv_tg p _ _ hn (by omega) (by omega) m hm
  | .few p, n, b, hn, h, hb, m, hm => by
    simp only [size] at h
    have := size_pos p
    simp [mvb] at hm
    rcases hm with rfl | hm
    · simp [tgB]; omega
    · exact mv_tg p _ _ hn (by omega) (by omega) m hm
  | .tak _ p, n, b, hn, h, hb, m, hm => by
    simp only [size] at h
    have := size_pos p
    simp [mvb] at hm
    rcases hm with rfl | hm
    · simp [tgB]; omega
    · exact mv_tg p _ _ hn (by omega) (by omega) m hm
def isCh (m : Option Mv) : Prop := ∃ a c, m = some (Mv.choice a c)
theorem mv_go {g : Nat → Option Mv} : ∀ (p : Pt) (n b : Nat), nob p = true → (∀ j, j < size p → g (n + j) = (mv p n b)[j]?) → (n + size p ≤ b ∨ isCh (g b)) → ∀ j, j < size p → ∀ c, g (n + j) = some (Mv.go c) → n + j < c ∨ isCh (g c)
  | .non, n, b, _, hg, hb, j, hj, c, e => by
    rw [hg j hj] at e
    simp only [size] at hj
    have : j = 0 := by omega
    subst this
    simp [mv, mvb] at e
  | .emp, n, b, _, hg, hb, j, hj, c, e => by
    rw [hg j hj] at e
    simp only [size] at hj hb
    have : j = 0 := by omega
    subst this
    simp [mv, mvb] at e
    subst e
    rcases hb with z | z
    · left; omega
    · exact .inr z
  | .sgn s, n, b, _, hg, hb, j, hj, c, e => by
    rw [hg j hj] at e
    simp only [size] at hj
    have : j = 0 := by omega
    subst this
    simp [mv, mvb] at e
  | .thn p q, n, b, hn, hg, hb, j, hj, c, e => by
    simp only [nob, Bool.and_eq_true] at hn
    simp only [size] at hj hb hg
    have lp : (mv p (n + 1) (n + 1 + size p)).length = size p := by simp [mv, mvb_len _ _ _ hn.1]
    have e0 : mv (.thn p q) n b = .go (n + 1) :: (mv p (n + 1) (n + 1 + size p) ++ mv q (n + 1 + size p) b) := by simp [mv, mvb]
    rw [e0] at hg
    have hp : ∀ j, j < size p → g (n + 1 + j) = (mv p (n + 1) (n + 1 + size p))[j]? := fun j hj => by
      have := hg (j + 1) (by omega)
      rw [List.getElem?_cons_succ, List.getElem?_append_left (by omega)] at this
      rw [← this]; congr 1; omega
    have hq : ∀ j, j < size q → g (n + 1 + size p + j) = (mv q (n + 1 + size p) b)[j]? := fun j hj => by
      have := hg (size p + j + 1) (by omega)
      rw [List.getElem?_cons_succ, List.getElem?_append_right (by omega), lp, Nat.add_sub_cancel_left] at this
      rw [← this]; congr 1; omega
    rcases Nat.lt_or_ge j 1 with z | z
    · have : j = 0 := by omega
      subst this
      rw [hg 0 (by omega)] at e
      simp at e
      subst e
      left; omega
    · rcases Nat.lt_or_ge j (size p + 1) with y | y
      · have := mv_go p (n + 1) (n + 1 + size p) hn.1 hp (.inl (by omega)) (j - 1) (by omega) c (by rw [← e]; congr 1; omega)
        rcases this with x | x
        · left; omega
        · exact .inr x
      · have := mv_go q (n + 1 + size p) b hn.2 hq (hb.imp (fun x => by omega) id) (j - 1 - size p) (by omega) c (by rw [← e]; congr 1; omega)
        rcases this with x | x
        · left; omega
        · exact .inr x
  | .orr p q, n, b, hn, hg, hb, j, hj, c, e => by
    simp only [nob, Bool.and_eq_true] at hn
    simp only [size] at hj hb hg
    have lp : (mv p (n + 1) b).length = size p := by simp [mv, mvb_len _ _ _ hn.1]
    have e0 : mv (.orr p q) n b = .choice (n + 1) (n + 1 + size p) :: (mv p (n + 1) b ++ mv q (n + 1 + size p) b) := by simp [mv, mvb]
    rw [e0] at hg
    have hp : ∀ j, j < size p → g (n + 1 + j) = (mv p (n + 1) b)[j]? := fun j hj => by
      have := hg (j + 1) (by omega)
      rw [List.getElem?_cons_succ, List.getElem?_append_left (by omega)] at this
      rw [← this]; congr 1; omega
    have hq : ∀ j, j < size q → g (n + 1 + size p + j) = (mv q (n + 1 + size p) b)[j]? := fun j hj => by
      have := hg (size p + j + 1) (by omega)
      rw [List.getElem?_cons_succ, List.getElem?_append_right (by omega), lp, Nat.add_sub_cancel_left] at this
      rw [← this]; congr 1; omega
    rcases Nat.lt_or_ge j 1 with z | z
    · have : j = 0 := by omega
      subst this
      rw [hg 0 (by omega)] at e
      simp at e
    · rcases Nat.lt_or_ge j (size p + 1) with y | y
      · have := mv_go p (n + 1) b hn.1 hp (hb.imp (fun x => by omega) id) (j - 1) (by omega) c (by rw [← e]; congr 1; omega)
        rcases this with x | x
        · left; omega
        · exact .inr x
      · have := mv_go q (n + 1 + size p) b hn.2 hq (hb.imp (fun x => by omega) id) (j - 1 - size p) (by omega) c (by rw [← e]; congr 1; omega)
        rcases this with x | x
        · left; omega
        · exact .inr x
  | .bth _ _, _, _, hn, _, _, _, _, _, _ => by cases hn
  | .nt _, _, _, hn, _, _, _, _, _, _ => by cases hn
  | .agn p, n, b, hn, hg, hb, j, hj, c, e => by
    simp only [nob] at hn
    simp only [size] at hj hb hg
    have e0 : mv (.agn p) n b = .choice (n + 1) b :: mv p (n + 1) n := by simp [mv, mvb]
    rw [e0] at hg
    have hp : ∀ j, j < size p → g (n + 1 + j) = (mv p (n + 1) n)[j]? := fun j hj => by
      have := hg (j + 1) (by omega)
      rw [List.getElem?_cons_succ] at this
      rw [← this]; congr 1; omega
    have hc : isCh (g n) := by
      have := hg 0 (by omega)
      simp at this
      exact ⟨_, _, this⟩
    rcases Nat.lt_or_ge j 1 with z | z
    · have : j = 0 := by omega
      subst this
      rw [hg 0 (by omega)] at e
      simp at e
    · have := mv_go p (n + 1) n hn hp (.inr hc) (j - 1) (by omega) c (by rw [← e]; congr 1; omega)
      rcases this with x | x
      · left; omega
      · exact .inr x
  | .few p, n, b, hn, hg, hb, j, hj, c, e => by
    simp only [nob] at hn
    simp only [size] at hj hb hg
    have e0 : mv (.few p) n b = .choice b (n + 1) :: mv p (n + 1) n := by simp [mv, mvb]
    rw [e0] at hg
    have hp : ∀ j, j < size p → g (n + 1 + j) = (mv p (n + 1) n)[j]? := fun j hj => by
      have := hg (j + 1) (by omega)
      rw [List.getElem?_cons_succ] at this
      rw [← this]; congr 1; omega
    have hc : isCh (g n) := by
      have := hg 0 (by omega)
      simp at this
      exact ⟨_, _, this⟩
    rcases Nat.lt_or_ge j 1 with z | z
    · have : j = 0 := by omega
      subst this
      rw [hg 0 (by omega)] at e
      simp at e
    · have := mv_go p (n + 1) n hn hp (.inr hc) (j - 1) (by omega) c (by rw [← e]; congr 1; omega)
      rcases this with x | x
      · left; omega
      · exact .inr x
  | .tak x p, n, b, hn, hg, hb, j, hj, c, e => by
    simp only [nob] at hn
    simp only [size] at hj hb hg
    have e0 : mv (.tak x p) n b = .go (n + 1) :: mv p (n + 1) b := by simp [mv, mvb]
    rw [e0] at hg
    have hp : ∀ j, j < size p → g (n + 1 + j) = (mv p (n + 1) b)[j]? := fun j hj => by
      have := hg (j + 1) (by omega)
      rw [List.getElem?_cons_succ] at this
      rw [← this]; congr 1; omega
    rcases Nat.lt_or_ge j 1 with z | z
    · have : j = 0 := by omega
      subst this
      rw [hg 0 (by omega)] at e
      simp at e
      subst e
      left; omega
    · have := mv_go p (n + 1) b hn hp (hb.imp (fun x => by omega) id) (j - 1) (by omega) c (by rw [← e]; congr 1; omega)
      rcases this with x | x
      · left; omega
      · exact .inr x
theorem mv_wf {p : Pt} (hn : nob p = true) : WF (mv p 0 (size p)) := by
  have hl : (mv p 0 (size p)).length = size p := by simp [mv, mvb_len _ _ _ hn]
  refine ⟨fun m hm => ?_, fun n b e => ?_⟩
  · rw [hl]
    obtain ⟨x, hx, rfl⟩ := List.mem_map.mp hm
    exact mv_tg p 0 (size p) hn (by omega) (Nat.le_refl _) x hx
  · have hj := (List.getElem?_eq_some_iff.mp e).1
    have := mv_go (g := fun i => (mv p 0 (size p))[i]?) p 0 (size p) hn (fun j hj => by rw [Nat.zero_add]) (.inl (by omega)) n (by omega) b (by rw [Nat.zero_add]; exact e)
    rw [Nat.zero_add] at this
    exact this
end
end K28
end EV

set_option Elab.async false
set_option linter.all false
set_option maxRecDepth 100000
set_option maxHeartbeats 4000000
/-! K28g: run, led, _law_led. -/
namespace EV
open PySem PySem.Spec
namespace K28
def csFits : CSs := (.cons (.ret (.and (.cmp .lt (.var 2) (.bi .len (.cons (.var 1) .nil))) (.cmp .eq (.idx (.var 1) (.var 2)) (.idx (.var 0) (.lit (.int 1)))))) .nil)
def rIf (iF : Nat) : CS := (.ifs (.cmp .eq (.idx (.var 8) (.lit (.int 0))) (.lit (.str "go")))
 (.cons (.asg (.nm 4) (.idx (.var 8) (.lit (.int 1))))
 .nil)
 (.cons (.ifs (.and (.cmp .eq (.idx (.var 8) (.lit (.int 0))) (.lit (.str "sign"))) (.call iF (.cons (.var 8) (.cons (.var 1) (.cons (.var 5) .nil)))))
 (.cons (.par [4, 5] (.cons (.idx (.var 8) (.lit (.int 2))) (.cons (.bin .add (.var 5) (.lit (.int 1))) .nil)))
 .nil)
 (.cons (.ifs (.and (.cmp .eq (.idx (.var 8) (.lit (.int 0))) (.lit (.str "choice"))) (.cmp .lt (.var 6) (.bi .len (.cons (.var 3) .nil))))
 (.cons (.asg (.nm 4) (.idx (.var 8) (.bin .add (.lit (.int 1)) (.idx (.var 3) (.var 6)))))
 (.cons (.aug 6 .add (.lit (.int 1)))
 .nil))
 (.cons (.ret (.var 7))
 .nil))
 .nil))
 .nil))
def rApp : CSs := (.cons (.expr (.meth .append (.var 7) (.cons (.tup (.cons (.var 4) (.cons (.var 5) (.cons (.var 6) .nil)))) .nil))) .nil)
def rBody (iF : Nat) : CSs := (.cons (.asg (.nm 8) (.idx (.var 0) (.var 4))) (.cons (rIf iF) rApp))
def csRun (iF : Nat) : CSs := (.cons (.asg (.tp [4, 5]) (.var 2))
 (.cons (.par [6, 7] (.cons (.lit (.int 0)) (.cons (.lst (.cons (.tup (.cons (.var 4) (.cons (.var 5) (.cons (.lit (.int 0)) .nil)))) .nil)) .nil)))
 (.cons (.whl (.cmp .ne (.var 4) (.bi .len (.cons (.var 0) .nil)))
 (rBody iF))
 (.cons (.ret (.var 7))
 .nil))))
def csLed (iM iR : Nat) : CSs := (.cons (.ret (.idx (.call iR (.cons (.call iM (.cons (.var 0) .nil)) (.cons (.var 1) (.cons (.tup (.cons (.lit (.int 0)) (.cons (.var 2) .nil))) (.cons (.var 3) .nil))))) (.neg (.lit (.int 1))))) .nil)
def lBody : CSs := (.cons (.asg (.nm 6) (.idx (.var 0) (.var 2)))
 (.cons (.ifs (.or (.cmp .eq (.idx (.var 6) (.lit (.int 0))) (.lit (.str "stop"))) (.and (.cmp .eq (.idx (.var 6) (.lit (.int 0))) (.lit (.str "sign"))) (.or (.cmp .eq (.var 3) (.bi .len (.cons (.var 1) .nil))) (.cmp .ne (.idx (.var 1) (.var 3)) (.idx (.var 6) (.lit (.int 1)))))))
 (.cons (.ret (.tup (.cons (.var 2) (.cons (.var 3) (.cons (.var 5) .nil)))))
 .nil)
 .nil)
 (.cons (.ifs (.cmp .eq (.idx (.var 6) (.lit (.int 0))) (.lit (.str "choice")))
 (.cons (.ifs (.cmp .eq (.var 5) (.bi .len (.cons (.var 4) .nil)))
 (.cons (.ret (.tup (.cons (.var 2) (.cons (.var 3) (.cons (.var 5) .nil)))))
 .nil)
 .nil)
 (.cons (.par [2, 5] (.cons (.idx (.var 6) (.bin .add (.lit (.int 1)) (.idx (.var 4) (.var 5)))) (.cons (.bin .add (.var 5) (.lit (.int 1))) .nil)))
 .nil))
 (.cons (.par [2, 3] (.cons (.idx (.var 6) (.neg (.lit (.int 1)))) (.cons (.bin .add (.var 3) (.bi .int (.cons (.cmp .eq (.idx (.var 6) (.lit (.int 0))) (.lit (.str "sign"))) .nil))) .nil)))
 .nil))
 .nil)))
def csLLed : CSs := (.cons (.asg (.nm 5) (.lit (.int 0)))
 (.cons (.whl (.cmp .lt (.var 2) (.bi .len (.cons (.var 0) .nil)))
 lBody)
 (.cons (.ret (.tup (.cons (.var 2) (.cons (.var 3) (.cons (.var 5) .nil)))))
 .nil)))
def encT : Nat × Nat × Nat → PV
  | (n, t, u) => .tup [.int (n : Nat), .int (t : Nat), .int (u : Nat)]
def encMs (ms : List Mv) : PV := .tup (ms.map encM)
section
variable {P : List Fn} {fu d iF iR iM : Nat} {h : EH} {Q : PV → EH → Prop} {ms : List Mv} {tx row : List Nat}
theorem mu_le {n t u : Nat} (h1 : ms.length ≤ 8000) (h2 : tx.length ≤ 20) (h3 : row.length ≤ 20) : mu ms tx row (n, t, u) ≤ 400000 := by
  simp only [mu]
  have := rk_le (ms := ms) n
  have : (tx.length - t + (row.length - u)) * (ms.length + 2) ≤ 40 * 8002 := Nat.mul_le_mul (by omega) (by omega)
  omega
theorem fits_ok {s b t : Nat} (hF : P[iF]? = some ⟨3, 3, csFits⟩) (q : Q (.bl (decide (tx[t]? = some s))) h) : Rr (run P fu (d + 1) iF [encM (.sign s b), encH tx, .int (t : Nat)] h) Q := by
  refine run_R hF rfl ?_
  simp [csFits, encH]
  by_cases c : t < tx.length
  · have e : tx[t]? = some (tx[t]'c) := List.getElem?_eq_getElem c
    rw [e] at q
    simp [c, seqAt_nat, e, encM]
    simp [seqAt, retQ]
    simp at q
    by_cases y : tx[t]'c = s
    · simpa [y] using q
    · have : ¬ ((tx[t]'c : Nat) : Int) = (s : Nat) := by omega
      simpa [y, this] using q
  · have : tx[t]? = none := List.getElem?_eq_none (by omega)
    rw [this] at q
    simp [c, retQ]
    simpa using q
theorem run_ok {s0 : Nat} (hF : P[iF]? = some ⟨3, 3, csFits⟩) (hR : P[iR]? = some ⟨4, 9, csRun iF⟩) (w : WF ms) (hb : s0 ≤ tx.length) (h1 : ms.length ≤ 8000) (h2 : tx.length ≤ 20) (h3 : row.length ≤ 20) (hr : ∀ c ∈ row, c < 2) (hfu : 1000000 < fu)
    (q : ∀ r acc g, g[r]? = some (.lst (acc ++ [encT (F ms tx row (0, s0, 0))])) → Kp [] h.length h g → Q (.ref r) g) : Rr (run P fu (d + 2) iR [encMs ms, encH tx, .tup [.int 0, .int (s0 : Nat)], encH row] h) Q := by
  refine run_R hR rfl ?_
  simp [csRun, bindAll]
  have mB := fun (n t u : Nat) => mu_le (ms := ms) (tx := tx) (row := row) (n := n) (t := t) (u := u) h1 h2 h3
  obtain ⟨I, hI⟩ : ∃ I : Nat → Sg → EH → Prop, ∀ k s g, I k s g ↔ (∃ (n t u : Nat) (acc : List PV) (m8 : Option PV), s = [some (encMs ms), some (encH tx), some (.tup [.int 0, .int (s0 : Nat)]), some (encH row), some (.int (n : Nat)), some (.int (t : Nat)), some (.int (u : Nat)), some (.ref h.length), m8] ∧
      inB ms tx row (n, t, u) ∧ F ms tx row (n, t, u) = F ms tx row (0, s0, 0) ∧ mu ms tx row (n, t, u) + 1 ≤ k ∧ acc.length + k ≤ 500000 ∧ g[h.length]? = some (.lst (acc ++ [encT (n, t, u)])) ∧ Kp [] h.length h g) := ⟨_, fun _ _ _ => Iff.rfl⟩
  refine S_whl (I := I) (n := 400001) (by omega) ((hI _ _ _).mpr ⟨0, s0, 0, [], none, rfl, ⟨by omega, hb, by omega⟩, rfl, by have := mB 0 s0 0; omega, by simp, by simp [encT], Kp.new (Nat.le_refl _)⟩) ?_
  intro k s g hi
  obtain ⟨n, t, u, acc, m8, rfl, ib, eF, hk, hac, e, kg⟩ := (hI _ _ _).mp hi
  obtain ⟨b1, b2, b3⟩ := id ib
  have stopped : stp ms tx row (n, t, u) = none → Q (.ref h.length) g := fun z => by
    refine q _ acc g ?_ kg
    rw [← eF, F_end z]
    exact e
  have hap : ∀ (v : PV) (Q : PV → EH → Prop), Rr (opMe .append (.ref h.length) [v] g) Q ↔ Q .non (g.set h.length (.lst (acc ++ [encT (n, t, u)] ++ [v]))) := fun v Q => m_append e (by rw [sz]; simp; omega)
  have next : ∀ (n' t' u' : Nat) (m8 : Option PV), stp ms tx row (n, t, u) = some (n', t', u') →
      I (k - 1) [some (encMs ms), some (encH tx), some (.tup [.int 0, .int (s0 : Nat)]), some (encH row), some (.int (n' : Nat)), some (.int (t' : Nat)), some (.int (u' : Nat)), some (.ref h.length), m8] (g.set h.length (.lst (acc ++ [encT (n, t, u)] ++ [encT (n', t', u')]))) := fun n' t' u' m8 z => by
    obtain ⟨ib', l⟩ := stp_ok w ib z
    refine (hI _ _ _).mpr ⟨n', t', u', acc ++ [encT (n, t, u)], m8, rfl, ib', by rw [← F_step w ib z, eF], by omega, by simp; omega, by rw [List.getElem?_set_self (get_lt e)], kg.trans (Kp.set kg.2.1 (.inr (Nat.le_refl _)))⟩
  simp [encMs]
  by_cases c : n = ms.length
  · subst c
    simp [retQ]
    exact stopped (by simp [stp])
  · have hn : n < ms.length := by omega
    rw [if_neg (by omega)]
    refine ⟨by omega, ?_⟩
    have em : ms[n]? = some (ms[n]'hn) := List.getElem?_eq_getElem hn
    rw [rBody, Ss_cons]
    simp [seqAt_nat, em]
    generalize ms[n]'hn = m at em
    rw [rIf]
    cases m with
    | stop =>
      simp [encM, seqAt]
      (rw [w_eq false]; rotate_left; · decide +kernel)
      simp
      (rw [w_eq false]; rotate_left; · decide +kernel)
      simp
      (rw [w_eq false]; rotate_left; · decide +kernel)
      simp [turn, retQ]
      exact stopped (by simp only [stp, em])
    | go b =>
      simp [encM, seqAt]
      (rw [w_eq true]; rotate_left; · decide +kernel)
      simp [rApp, k_lst e, hap, turn]
      have := next b t u (some (encM (.go b))) (by simp only [stp, em])
      simpa [encT, encM, encMs] using this
    | sign s b =>
      simp [encM, seqAt]
      (rw [w_eq false]; rotate_left; · decide +kernel)
      simp
      (rw [w_eq true]; rotate_left; · decide +kernel)
      simp
      refine fits_ok (b := b) hF ?_
      by_cases y : tx[t]? = some s
      · simp [y, bindAll, seqAt, rApp, k_lst e, hap, turn]
        have := next b (t + 1) u (some (encM (.sign s b))) (by simp only [stp, em, if_pos y])
        simpa [encT, encM, encMs] using this
      · simp [y]
        (rw [w_eq false]; rotate_left; · decide +kernel)
        simp [turn, retQ]
        exact stopped (by simp only [stp, em, if_neg y])
    | choice a b =>
      simp [encM, seqAt]
      (rw [w_eq false]; rotate_left; · decide +kernel)
      simp
      (rw [w_eq false]; rotate_left; · decide +kernel)
      simp
      (rw [w_eq true]; rotate_left; · decide +kernel)
      simp [encH]
      by_cases y : u < row.length
      · have er : row[u]? = some (row[u]'y) := List.getElem?_eq_getElem y
        have h2 := hr _ (List.getElem_mem y)
        simp [y, seqAt_nat]
        generalize row[u]'y = c0 at er h2
        have : c0 = 0 ∨ c0 = 1 := by omega
        rcases this with rfl | rfl
        · simp [seqAt, opA, rApp, k_lst e, hap, turn]
          have := next a t (u + 1) (some (encM (.choice a b))) (by simp only [stp, em, er]; rfl)
          simpa [encT, encM, encMs, encH] using this
        · simp [seqAt, opA, rApp, k_lst e, hap, turn]
          have := next b t (u + 1) (some (encM (.choice a b))) (by simp only [stp, em, er]; rfl)
          simpa [encT, encM, encMs, encH] using this
      · simp [y, turn, retQ]
        exact stopped (by simp only [stp, em, List.getElem?_eq_none (Nat.le_of_not_lt y)])
end
end K28
end EV

set_option Elab.async false
set_option linter.all false
set_option maxRecDepth 100000
set_option maxHeartbeats 4000000
/-! K28h: led, _law_led. -/
namespace EV
open PySem PySem.Spec
namespace K28
section
variable {P : List Fn} {fu d ii ip is ia iN iM iF iR iL iE : Nat} {h : EH} {Q : PV → EH → Prop} {ms : List Mv} {tx row : List Nat} {p : Pt}
theorem mv_len (hn : nob p = true) : (mv p 0 (size p)).length = size p := by simp [mv, mvb_len _ _ _ hn]
theorem led_ok {s0 : Nat} (X : TxtS P ii ip is) (hA : P[ia]? = some ⟨3, 6, csAdd is ia⟩) (hN : P[iN]? = some ⟨1, 2, csNum is ia⟩) (hM : P[iM]? = some ⟨1, 3, csMoves iN⟩) (hF : P[iF]? = some ⟨3, 3, csFits⟩) (hR : P[iR]? = some ⟨4, 9, csRun iF⟩) (hE : P[iE]? = some ⟨4, 4, csLed iM iR⟩)
    (hd : dep p + 6 ≤ d) (hn : nob p = true) (hz : size p ≤ 8000) (hb : s0 ≤ tx.length) (h2 : tx.length ≤ 20) (h3 : row.length ≤ 20) (hr : ∀ c ∈ row, c < 2) (hfu : 1000000 < fu)
    (q : ∀ g, Kp [] h.length h g → Q (encT (F (mv p 0 (size p)) tx row (0, s0, 0))) g) : Rr (run P fu d iE [enc p, encH tx, .int (s0 : Nat), encH row] h) Q := by
  obtain ⟨d, rfl⟩ : ∃ d', d = d' + 3 := ⟨d - 3, by omega⟩
  refine run_R hE rfl ?_
  simp [csLed]
  refine moves_ok X hA hN hM (by omega) (by omega) hn hz fun g kg => ?_
  try simp
  refine run_ok (d := d) (ms := mv p 0 (size p)) hF hR (mv_wf hn) hb (by rw [mv_len hn]; omega) h2 h3 hr hfu fun r acc g2 e k2 => ?_
  simp [x_lst e, seqAt, retQ]
  have : (acc ++ [encT (F (mv p 0 (size p)) tx row (0, s0, 0))])[((-1 : Int) + (acc.length + 1)).toNat]? = some (encT (F (mv p 0 (size p)) tx row (0, s0, 0))) := by
    rw [show ((-1 : Int) + (acc.length + 1)).toNat = acc.length by omega]
    simp
  simp [this]
  exact ⟨by omega, q _ (kg.trans (k2.less kg.2.1))⟩
theorem lled_ok {s0 r : Nat} (hL : P[iL]? = some ⟨5, 7, csLLed⟩) (w : WF ms) (hb : s0 ≤ tx.length) (h1 : ms.length ≤ 8000) (h2 : tx.length ≤ 20) (h3 : row.length ≤ 20) (hr : ∀ c ∈ row, c < 2) (hfu : 1000000 < fu) (e : h[r]? = some (.lst (ms.map encM)))
    (q : Q (encT (F ms tx row (0, s0, 0))) h) : Rr (run P fu (d + 1) iL [.ref r, encH tx, .int 0, .int (s0 : Nat), encH row] h) Q := by
  refine run_R hL rfl ?_
  simp [csLLed]
  have mB := fun (n t u : Nat) => mu_le (ms := ms) (tx := tx) (row := row) (n := n) (t := t) (u := u) h1 h2 h3
  obtain ⟨I, hI⟩ : ∃ I : Nat → Sg → EH → Prop, ∀ k s g, I k s g ↔ (∃ (n t u : Nat) (m6 : Option PV), s = [some (.ref r), some (encH tx), some (.int (n : Nat)), some (.int (t : Nat)), some (encH row), some (.int (u : Nat)), m6] ∧
      inB ms tx row (n, t, u) ∧ F ms tx row (n, t, u) = F ms tx row (0, s0, 0) ∧ mu ms tx row (n, t, u) + 1 ≤ k ∧ g = h) := ⟨_, fun _ _ _ => Iff.rfl⟩
  refine S_whl (I := I) (n := 400001) (by omega) ((hI _ _ _).mpr ⟨0, s0, 0, none, rfl, ⟨by omega, hb, by omega⟩, rfl, by have := mB 0 s0 0; omega, rfl⟩) ?_
  intro k s g hi
  obtain ⟨n, t, u, m6, rfl, ib, eF, hk, rfl⟩ := (hI _ _ _).mp hi
  obtain ⟨b1, b2, b3⟩ := id ib
  have stopped : stp ms tx row (n, t, u) = none → Q (encT (n, t, u)) g := fun z => by
    rw [← eF, F_end z] at q
    exact q
  have next : ∀ (n' t' u' : Nat) (m6 : Option PV), stp ms tx row (n, t, u) = some (n', t', u') →
      I (k - 1) [some (.ref r), some (encH tx), some (.int (n' : Nat)), some (.int (t' : Nat)), some (encH row), some (.int (u' : Nat)), m6] g := fun n' t' u' m6 z => by
    obtain ⟨ib', l⟩ := stp_ok w ib z
    exact (hI _ _ _).mpr ⟨n', t', u', m6, rfl, ib', by rw [← F_step w ib z, eF], by omega, rfl⟩
  simp [b_lenR e]
  by_cases c : n = ms.length
  · subst c
    simp [retQ]
    exact stopped (by simp [stp])
  · have hn : n < ms.length := by omega
    simp [hn]
    refine ⟨by omega, ?_⟩
    have em : ms[n]? = some (ms[n]'hn) := List.getElem?_eq_getElem hn
    rw [lBody, Ss_cons]
    simp [x_lst e, seqAt_nat, em]
    generalize ms[n]'hn = m at em
    cases m with
    | stop =>
      simp [encM, seqAt]
      (rw [w_eq true]; rotate_left; · decide +kernel)
      simp [turn, retQ]
      exact stopped (by simp only [stp, em])
    | go b =>
      simp [encM, seqAt]
      (rw [w_eq false]; rotate_left; · decide +kernel)
      simp
      (rw [w_eq false]; rotate_left; · decide +kernel)
      simp
      (rw [w_eq false]; rotate_left; · decide +kernel)
      simp
      (rw [w_eq false]; rotate_left; · decide +kernel)
      simp [turn, bindAll]
      have := next b t u (some (encM (.go b))) (by simp only [stp, em])
      simpa [encM] using this
    | sign s b =>
      simp [encM, seqAt]
      (rw [w_eq false]; rotate_left; · decide +kernel)
      simp
      (rw [w_eq true]; rotate_left; · decide +kernel)
      simp [encH]
      by_cases y : t = tx.length
      · subst y
        simp [turn, retQ]
        exact stopped (by simp [stp, em])
      · have hl : t < tx.length := by omega
        have et : tx[t]? = some (tx[t]'hl) := List.getElem?_eq_getElem hl
        rw [if_neg (by omega)]
        simp [seqAt_nat, et]
        by_cases y : tx[t]'hl = s
        · simp [y]
          (rw [w_eq false]; rotate_left; · decide +kernel)
          simp [bindAll, seqAt]
          (rw [w_eq true]; rotate_left; · decide +kernel)
          simp [turn, bindAll]
          have := next b (t + 1) u (some (encM (.sign s b))) (by simp [stp, em, et, y])
          simpa [encM, encH] using this
        · have y2 : ¬ ((tx[t]'hl : Nat) : Int) = (s : Nat) := by omega
          simp [y2, turn, retQ]
          exact stopped (by simp [stp, em, et, y])
    | choice a b =>
      simp [encM, seqAt]
      (rw [w_eq false]; rotate_left; · decide +kernel)
      simp
      (rw [w_eq false]; rotate_left; · decide +kernel)
      simp
      (rw [w_eq true]; rotate_left; · decide +kernel)
      simp [encH]
      by_cases y : u = row.length
      · subst y
        simp [turn, retQ]
        exact stopped (by simp [stp, em])
      · have hl : u < row.length := by omega
        have er : row[u]? = some (row[u]'hl) := List.getElem?_eq_getElem hl
        have h2 := hr _ (List.getElem_mem hl)
        rw [if_neg (by omega)]
        simp [seqAt_nat, er]
        generalize row[u]'hl = c0 at er h2
        have : c0 = 0 ∨ c0 = 1 := by omega
        rcases this with rfl | rfl
        · simp [seqAt, bindAll, turn]
          have := next a t (u + 1) (some (encM (.choice a b))) (by simp only [stp, em, er]; rfl)
          simpa [encM, encH] using this
        · simp [seqAt, bindAll, turn]
          have := next b t (u + 1) (some (encM (.choice a b))) (by simp only [stp, em, er]; rfl)
          simpa [encM, encH] using this
end
end K28
end EV

set_option Elab.async false
set_option linter.all false
set_option maxRecDepth 100000
set_option maxHeartbeats 4000000
/-! K28i: drawn search patterns. -/
namespace EV
open PySem PySem.Spec
namespace K28
def csLeaf (ip io : Nat) : CSs := (.cons (.asg (.nm 2) (.tup (.cons (.lit (.str "sign")) (.cons (.call ip (.cons (.var 0) (.cons (.var 1) .nil))) .nil))))
 (.cons (.ret (.call io (.cons (.var 0) (.cons (.lst (.cons (.var 2) (.cons (.var 2) (.cons (.var 2) (.cons (.var 2) (.cons (.var 2) (.cons (.tup (.cons (.lit (.str "empty")) .nil)) (.cons (.tup (.cons (.lit (.str "none")) .nil)) .nil)))))))) .nil))))
 .nil))
section
variable {P : List Fn} {fu d ip io iLf il ie ig : Nat} {n c : Nat} {h : EH} {Q : PV → EH → Prop} {p : Pt} {many : Nat}
theorem skk {g : EH} (sg : Src n c h) (k : Kp [] h.length h g) : Src n c g := by
  obtain ⟨u, v⟩ := sg.lt
  exact sg.kp k u v (by simp) (by simp)
theorem ofN {xs : List PV} (hP : P[ip]? = some ⟨2, 4, csPick⟩) (hO : P[io]? = some ⟨2, 2, csOf ip⟩) (hs : Src n c h) (h0 : 0 < xs.length) (h1 : xs.length ≤ 1000) (hfu : 100 < fu)
    (q : ∀ x h', x ∈ xs → Src n c h' → Kp [n, c] h.length h h' → Q x h') : Rr (run P fu (d + 2) io [.ref n, .ref h.length] (h ++ [.lst xs])) Q := by
  obtain ⟨u, v⟩ := hs.lt
  have e : (h ++ [EO.lst xs])[h.length]? = some (.lst xs) := get_new
  refine of_ok hP hO (K39.Src.new hs) (fun Q' => b_lenR e) h0 (by omega) hfu fun g k hk sg kg => ?_
  have e2 := kg.get e (get_lt e) (by simp; omega)
  rw [x_lst e2, seqAt_nat, List.getElem?_eq_getElem hk]
  simp only [R_some]
  exact q _ _ (List.getElem_mem hk) sg ((Kp.new (Nat.le_refl _)).trans (kg.less (by simp)))
def leaf (many : Nat) (p : Pt) : Prop := p = .non ∨ p = .emp ∨ ∃ s, s < many ∧ p = .sgn s
theorem leaf_ok (hP : P[ip]? = some ⟨2, 4, csPick⟩) (hO : P[io]? = some ⟨2, 2, csOf ip⟩) (hL : P[iLf]? = some ⟨2, 3, csLeaf ip io⟩) (hs : Src n c h) (h0 : 1 ≤ many) (h1 : many ≤ 1000) (hfu : 100 < fu)
    (q : ∀ p h', leaf many p → Src n c h' → Kp [n, c] h.length h h' → Q (enc p) h') : Rr (run P fu (d + 3) iLf [.ref n, .int (many : Nat)] h) Q := by
  refine run_R hL rfl ?_
  simp [csLeaf]
  refine pick_ok (d := d + 1) hP hs (by omega) (by omega) hfu fun v h' v0 v1 s k => ?_
  try simp
  refine ofN (d := d) hP hO s (by simp) (by simp) hfu fun x h2 hx s2 k2 => ?_
  simp [retQ]
  have kk := k.trans (k2.less k.2.1)
  simp at hx
  rcases hx with rfl | rfl | rfl
  · have := q (.sgn v.toNat) h2 (.inr (.inr ⟨_, by omega, rfl⟩)) s2 kk
    simpa [enc, Int.toNat_of_nonneg v0] using this
  · exact q .emp h2 (.inr (.inl rfl)) s2 kk
  · exact q .non h2 (.inl rfl) s2 kk
/-! what is drawn -/
def nmOk (x : Str) : Bool := gS x && decide (x.cps.size ≤ 20)
def gp : Pt → Bool
  | .non => true
  | .emp => true
  | .sgn s => decide (s < 1000)
  | .thn a b => gp a && gp b
  | .orr a b => gp a && gp b
  | .bth a b => gp a && gp b
  | .nt a => gp a
  | .agn a => gp a
  | .few a => gp a
  | .tak x a => nmOk x && gp a
structure Gr (p : Pt) (room D : Nat) : Prop where
  nob : nob p = true
  srch : isS p = true
  dt : gp p = true
  sz : size p ≤ max 1 room
  dp : dep p ≤ D + 1
theorem isS_thn {a b : Pt} : isS (.thn a b) = (isS a && isS b) := by simp [isS, parts, bad]
theorem isS_orr {a b : Pt} : isS (.orr a b) = (isS a && isS b) := by simp [isS, parts, bad]
theorem isS_agn {a : Pt} : isS (.agn a) = (!hasE a && isS a) := by simp [isS, parts, bad]
theorem isS_few {a : Pt} : isS (.few a) = (!hasE a && isS a) := by simp [isS, parts, bad]
theorem isS_tak {x : Str} {a : Pt} : isS (.tak x a) = isS a := by simp [isS, parts, bad]
theorem leaf_gr {room D : Nat} (l : leaf many p) (hm : many ≤ 1000) : Gr p room D := by
  rcases l with rfl | rfl | ⟨s, hs, rfl⟩
  · exact ⟨rfl, rfl, rfl, by simp [size]; omega, by simp [dep]⟩
  · exact ⟨rfl, rfl, rfl, by simp [size]; omega, by simp [dep]⟩
  · exact ⟨rfl, rfl, by simp [gp]; omega, by simp [size]; omega, by simp [dep]⟩
def nmCk (k : Nat) : Bool := decide (("x" : Str).length + (toString (k : Int) : Str).length ≤ 1000) && nmOk (("x" : Str) ++ (toString (k : Int) : Str))
theorem nm_all : (List.range 600).all nmCk = true := by decide +kernel
theorem nm_ok {k : Nat} (hk : k < 600) : ("x" : Str).length + (toString (k : Int) : Str).length ≤ 1000 ∧ nmOk (("x" : Str) ++ (toString (k : Int) : Str)) = true := by
  have := List.all_eq_true.mp nm_all k (by simpa using hk)
  unfold nmCk at this
  simpa using this
end
end K28
end EV

set_option Elab.async false
set_option linter.all false
set_option maxRecDepth 100000
set_option maxHeartbeats 4000000
/-! K28j: _law_grow. -/
namespace EV
open PySem PySem.Spec
namespace K28
def gWords : CE := (.lst (.cons (.lit (.str "then")) (.cons (.lit (.str "then")) (.cons (.lit (.str "or")) (.cons (.lit (.str "or")) (.cons (.lit (.str "again")) (.cons (.lit (.str "again")) (.cons (.lit (.str "few")) (.cons (.lit (.str "take")) (.cons (.lit (.str "sign")) .nil))))))))))
def wordL : List PV := [.str "then", .str "then", .str "or", .str "or", .str "again", .str "again", .str "few", .str "take", .str "sign"]
def gStop : CE := (.or (.cmp .lt (.var 2) (.lit (.int 2))) (.or (.cmp .eq (.var 5) (.lit (.str "sign"))) (.or (.cmp .lt (.var 4) (.lit (.int 1))) (.and (.cmp .lt (.var 2) (.lit (.int 3))) (.cmp .isIn (.var 5) (.tup (.cons (.lit (.str "then")) (.cons (.lit (.str "or")) .nil))))))))
def gTwo (ip il ig : Nat) : CSs := (.cons (.asg (.nm 6) (.call ig (.cons (.var 0) (.cons (.var 1) (.cons (.bin .add (.lit (.int 1)) (.call ip (.cons (.var 0) (.cons (.bin .sub (.var 2) (.lit (.int 2))) .nil)))) (.cons (.var 3) (.cons (.bin .sub (.var 4) (.lit (.int 1))) .nil)))))))
 (.cons (.ret (.tup (.cons (.var 5) (.cons (.var 6) (.cons (.call ig (.cons (.var 0) (.cons (.var 1) (.cons (.bin .sub (.bin .sub (.var 2) (.lit (.int 1))) (.call il (.cons (.var 6) .nil))) (.cons (.var 3) (.cons (.bin .sub (.var 4) (.lit (.int 1))) .nil)))))) .nil)))))
 .nil))
def gTake (ig : Nat) : CSs := (.cons (.expr (.meth .append (.var 3) (.cons (.bin .add (.lit (.str "x")) (.bi .str (.cons (.bi .len (.cons (.var 3) .nil)) .nil))) .nil)))
 (.cons (.asg (.nm 7) (.idx (.var 3) (.neg (.lit (.int 1)))))
 (.cons (.ret (.tup (.cons (.var 5) (.cons (.var 7) (.cons (.call ig (.cons (.var 0) (.cons (.var 1) (.cons (.bin .sub (.var 2) (.lit (.int 1))) (.cons (.var 3) (.cons (.bin .sub (.var 4) (.lit (.int 1))) .nil)))))) .nil)))))
 .nil)))
def gIf (ip io il ie : Nat) : CS := (.ifs (.call ie (.cons (.var 6) .nil))
 (.cons (.asg (.nm 8) (.tup (.cons (.lit (.str "sign")) (.cons (.call ip (.cons (.var 0) (.cons (.var 1) .nil))) .nil))))
 (.cons (.asg (.nm 9) (.call io (.cons (.var 0) (.cons (.lst (.cons (.tup (.cons (.lit (.str "then")) (.cons (.var 8) (.cons (.var 6) .nil)))) (.cons (.tup (.cons (.lit (.str "then")) (.cons (.var 6) (.cons (.var 8) .nil)))) .nil))) .nil))))
 (.cons (.asg (.nm 6) (.ife (.cmp .le (.bin .add (.call il (.cons (.var 6) .nil)) (.lit (.int 3))) (.var 2)) (.var 9) (.var 8)))
 .nil)))
 .nil)
def gRet : CSs := (.cons (.ret (.tup (.cons (.var 5) (.cons (.var 6) .nil)))) .nil)
def gAgain (ip io il ie ig : Nat) : CSs := (.cons (.asg (.nm 6) (.call ig (.cons (.var 0) (.cons (.var 1) (.cons (.bin .sub (.var 2) (.lit (.int 1))) (.cons (.var 3) (.cons (.bin .sub (.var 4) (.lit (.int 2))) .nil)))))))
 (.cons (gIf ip io il ie) gRet))
def gRest (ip io il ie ig : Nat) : CSs := (.cons (.ifs (.cmp .isIn (.var 5) (.tup (.cons (.lit (.str "then")) (.cons (.lit (.str "or")) .nil))))
 (gTwo ip il ig)
 .nil)
 (.cons (.ifs (.cmp .eq (.var 5) (.lit (.str "take")))
 (gTake ig)
 .nil)
 (gAgain ip io il ie ig)))
def csGrow (ip io iLf il ie ig : Nat) : CSs := (.cons (.asg (.nm 5) (.call io (.cons (.var 0) (.cons gWords .nil))))
 (.cons (.ifs gStop
 (.cons (.ret (.call iLf (.cons (.var 0) (.cons (.var 1) .nil))))
 .nil)
 .nil)
 (gRest ip io il ie ig)))
structure TxtG (P : List Fn) (ip io iLf il ie ig : Nat) : Prop where
  p : P[ip]? = some ⟨2, 4, csPick⟩
  o : P[io]? = some ⟨2, 2, csOf ip⟩
  f : P[iLf]? = some ⟨2, 3, csLeaf ip io⟩
  l : P[il]? = some ⟨1, 2, csLSize il⟩
  e : P[ie]? = some ⟨1, 3, csLEmpty ie⟩
  g : P[ig]? = some ⟨5, 10, csGrow ip io iLf il ie ig⟩
section
variable {P : List Fn} {fu d ip io iLf il ie ig : Nat} {n c m : Nat} {h : EH} {Q : PV → EH → Prop} {p : Pt} {many : Nat}
def GrowAt (P : List Fn) (fu ig n c m many D : Nat) : Prop := ∀ (room : Nat) (names : List PV) (h : EH) (d : Nat) (Q : PV → EH → Prop), D + 10 ≤ d → room ≤ 1000 → names.length + 2 ^ D / 4 ≤ 599 → Src n c h → h[m]? = some (.lst names) →
    (∀ p names' h', Gr p room D → names'.length ≤ names.length + 2 ^ D / 4 → Src n c h' → h'[m]? = some (.lst names') → Kp [n, c, m] h.length h h' → Q (enc p) h') → Rr (run P fu d ig [.ref n, .int (many : Nat), .int (room : Nat), .ref m, .int ((D : Int) - 1)] h) Q
theorem pw2 {D : Nat} (h : 2 ≤ D) : 2 * (2 ^ (D - 1) / 4) ≤ 2 ^ D / 4 ∧ 2 ^ (D - 1) / 4 + 1 ≤ 2 ^ D / 4 ∧ 2 ^ (D - 2) / 4 ≤ 2 ^ D / 4 := by
  obtain ⟨k, rfl⟩ : ∃ k, D = k + 2 := ⟨D - 2, by omega⟩
  have e1 : 2 ^ (k + 2) = 2 ^ k * 4 := by rw [Nat.pow_add]
  have e2 : 2 ^ (k + 2 - 1) = 2 ^ k * 2 := by rw [show k + 2 - 1 = k + 1 by omega, Nat.pow_succ]
  have e3 : k + 2 - 2 = k := by omega
  rw [e1, e2, e3]
  have : 0 < 2 ^ k := Nat.pow_pos (by decide)
  generalize 2 ^ k = x at this
  omega
theorem gr_thn {a b : Pt} {D r1 r2 room : Nat} (hD : 1 ≤ D) (x : Gr a r1 (D - 1)) (y : Gr b r2 (D - 1)) (h : 1 + size a + size b ≤ room) : Gr (.thn a b) room D :=
  ⟨by simp [nob, x.nob, y.nob], by simp [isS_thn, x.srch, y.srch], by simp [gp, x.dt, y.dt], by simp only [size]; omega, by have := x.dp; have := y.dp; simp only [dep]; omega⟩
theorem gr_orr {a b : Pt} {D r1 r2 room : Nat} (hD : 1 ≤ D) (x : Gr a r1 (D - 1)) (y : Gr b r2 (D - 1)) (h : 1 + size a + size b ≤ room) : Gr (.orr a b) room D :=
  ⟨by simp [nob, x.nob, y.nob], by simp [isS_orr, x.srch, y.srch], by simp [gp, x.dt, y.dt], by simp only [size]; omega, by have := x.dp; have := y.dp; simp only [dep]; omega⟩
theorem kM {k : Nat} {g : EH} (x : Kp [n, c] k h g) : Kp [n, c, m] k h g := x.more (by intro z hz _; simp at hz ⊢; omega)
theorem kZ {M : List Nat} {k : Nat} {g : EH} (x : Kp [] k h g) : Kp M k h g := x.more (by simp)
theorem two_ok {D room : Nat} {names : List PV} {w : Str} {mk : Pt → Pt → Pt} {h0 : EH} (T : TxtG P ip io iLf il ie ig) (h1 : 1 ≤ many) (h2 : many ≤ 1000) (hfu : 100 < fu) (hmn : m ≠ n) (hmc : m ≠ c) (hD : 2 ≤ D) (G : GrowAt P fu ig n c m many (D - 1)) (hd : D + 9 ≤ d) (hr : 3 ≤ room) (hr2 : room ≤ 1000) (hl : names.length + 2 ^ D / 4 ≤ 599)
    (hs : Src n c h) (e : h[m]? = some (.lst names)) (k0 : Kp [n, c, m] h0.length h0 h) (he : ∀ a b, enc (mk a b) = .tup [.str w, enc a, enc b]) (hg : ∀ a b r1 r2, Gr a r1 (D - 1) → Gr b r2 (D - 1) → 1 + size a + size b ≤ room → Gr (mk a b) room D)
    (q : ∀ p names' h', Gr p room D → names'.length ≤ names.length + 2 ^ D / 4 → Src n c h' → h'[m]? = some (.lst names') → Kp [n, c, m] h0.length h0 h' → Q (enc p) h') {m6 m7 m8 m9 : Option PV} {Df : Fl → Sg → EH → Prop} (hDf : ∀ v s h, Q v h → Df (.rt v) s h) :
    Ss (run P fu d) fu (gTwo ip il ig) [some (.ref n), some (.int (many : Nat)), some (.int (room : Nat)), some (.ref m), some (.int ((D : Int) - 1)), some (.str w), m6, m7, m8, m9] h Df := by
  obtain ⟨d, rfl⟩ : ∃ d', d = d' + 1 := ⟨d - 1, by omega⟩
  obtain ⟨p1, p2, p3⟩ := pw2 hD
  simp [gTwo]
  refine pick_ok (d := d) T.p hs (by omega) (by omega) hfu fun v g v0 v1 s1 k1 => ?_
  try simp
  have e1 := k1.get e (get_lt e) (by simp; omega)
  rw [show (1 + v) = ((1 + v.toNat : Nat) : Int) by omega, show ((D : Int) - 1 - 1) = ((D - 1 : Nat) : Int) - 1 by omega]
  refine G (1 + v.toNat) names g (d + 1) _ (by omega) (by omega) (by omega) s1 e1 fun a n2 g2 ga l2 s2 e2 k2 => ?_
  try simp
  have kA : Kp [n, c, m] h.length h g := kM k1
  have kB := kA.trans (k2.less kA.2.1)
  have kk := k0.trans (kB.less k0.2.1)
  have sza := ga.sz
  have szp := size_pos a
  refine lsize_ok T.l (dep a) a g2 (d + 1) _ (Nat.le_refl _) (by have := ga.dp; omega) fun g3 k3 => ?_
  try simp
  have s3 := skk s2 k3
  have e3 := k3.get e2 (get_lt e2) (by simp)
  have kk3 := kk.trans ((kZ k3).less kk.2.1)
  rw [show ((room : Int) - 1 - (size a : Nat)) = ((room - 1 - size a : Nat) : Int) by omega]
  refine G (room - 1 - size a) n2 g3 (d + 1) _ (by omega) (by omega) (by omega) s3 e3 fun b n3 g4 gb l3 s4 e4 k4 => ?_
  have szb := gb.sz
  try simp
  rw [← he]
  exact hDf _ _ _ (q _ _ _ (hg a b _ _ ga gb (by omega)) (by omega) s4 e4 (kk3.trans (k4.less kk3.2.1)))
theorem take_ok {D room : Nat} {names : List PV} {h0 : EH} (T : TxtG P ip io iLf il ie ig) (h1 : 1 ≤ many) (h2 : many ≤ 1000) (hfu : 100 < fu) (hmn : m ≠ n) (hmc : m ≠ c) (hD : 2 ≤ D) (G : GrowAt P fu ig n c m many (D - 1)) (hd : D + 9 ≤ d) (hr : 2 ≤ room) (hr2 : room ≤ 1000) (hl : names.length + 2 ^ D / 4 ≤ 599)
    (hs : Src n c h) (e : h[m]? = some (.lst names)) (k0 : Kp [n, c, m] h0.length h0 h)
    (q : ∀ p names' h', Gr p room D → names'.length ≤ names.length + 2 ^ D / 4 → Src n c h' → h'[m]? = some (.lst names') → Kp [n, c, m] h0.length h0 h' → Q (enc p) h') {m6 m7 m8 m9 : Option PV} {Df : Fl → Sg → EH → Prop} (hDf : ∀ v s h, Q v h → Df (.rt v) s h) :
    Ss (run P fu d) fu (gTake ig) [some (.ref n), some (.int (many : Nat)), some (.int (room : Nat)), some (.ref m), some (.int ((D : Int) - 1)), some (.str "take"), m6, m7, m8, m9] h Df := by
  obtain ⟨p1, p2, p3⟩ := pw2 hD
  obtain ⟨n1, n2⟩ := nm_ok (k := names.length) (by omega)
  have lg : (names.length : Int).natAbs.log2 < 1920 := by
    rw [Int.natAbs_natCast]
    by_cases z : names.length = 0
    · rw [z]; decide
    · have := (Nat.log2_lt z).mpr (show names.length < 2 ^ 64 by omega)
      omega
  have oa : ∀ (h : EH) (Q : PV → EH → Prop), Rr (opB .add (.str "x") (.str (toString (names.length : Int))) h) Q ↔ Q (.str (("x" : Str) ++ (toString (names.length : Int) : Str))) h := fun h Q => by
    simp only [opB]
    rw [if_pos (by rw [sz]; omega), Rr_ok]
  have e1 : ∀ v, (h.set m (.lst v))[m]? = some (.lst v) := fun v => List.getElem?_set_self (get_lt e)
  have s1 : ∀ v, Src n c (h.set m v) := fun v => by
    obtain ⟨ys, l, mm, tt, z⟩ := hs
    exact ⟨ys, l, mm, tt, z.keep (List.getElem?_set_ne (by omega)) (List.getElem?_set_ne (by omega))⟩
  have k1 : ∀ v, Kp [n, c, m] h0.length h0 (h.set m v) := fun v => k0.trans (Kp.set k0.2.1 (.inl (by simp)))
  generalize (("x" : Str) ++ (toString (names.length : Int) : Str)) = nm at n2 oa
  simp [gTake, k_lst e, b_lenR e]
  rw [b_strI lg]
  simp only [oa]
  rw [m_append e (by rw [sz]; omega)]
  simp [x_lst (e1 _), seqAt]
  rw [show ((-1 : Int) + (names.length + 1)).toNat = names.length by omega]
  simp
  refine ⟨by omega, ?_⟩
  rw [show ((room : Int) - 1) = ((room - 1 : Nat) : Int) by omega, show ((D : Int) - 1 - 1) = ((D - 1 : Nat) : Int) - 1 by omega]
  refine G (room - 1) (names ++ [.str nm]) _ d _ (by omega) (by omega) (by simp; omega) (s1 _) (e1 _) fun a n2' g2 ga l2 s2 e2 k2 => ?_
  simp at l2
  have sza := ga.sz
  try simp
  refine hDf _ _ _ ?_
  exact q (.tak nm a) _ _ ⟨ga.nob, by rw [isS_tak]; exact ga.srch, by simp [gp, n2, ga.dt], by simp only [size]; omega, by have := ga.dp; simp only [dep]; omega⟩ (by omega) s2 e2 ((k1 _).trans (k2.less (k1 _).2.1))
theorem again_ok {D room : Nat} {names : List PV} {w : Str} {mk : Pt → Pt} {h0 : EH} (T : TxtG P ip io iLf il ie ig) (h1 : 1 ≤ many) (h2 : many ≤ 1000) (hfu : 100 < fu) (hmn : m ≠ n) (hmc : m ≠ c) (hD : 2 ≤ D) (G : GrowAt P fu ig n c m many (D - 2)) (hd : D + 9 ≤ d) (hr : 2 ≤ room) (hr2 : room ≤ 1000) (hl : names.length + 2 ^ D / 4 ≤ 599)
    (hs : Src n c h) (e : h[m]? = some (.lst names)) (k0 : Kp [n, c, m] h0.length h0 h) (he : ∀ a, enc (mk a) = .tup [.str w, enc a]) (hg : ∀ a, nob a = true → isS a = true → gp a = true → hasE a = false → size a + 1 ≤ room → dep a ≤ D → Gr (mk a) room D)
    (q : ∀ p names' h', Gr p room D → names'.length ≤ names.length + 2 ^ D / 4 → Src n c h' → h'[m]? = some (.lst names') → Kp [n, c, m] h0.length h0 h' → Q (enc p) h') {m6 m7 m8 m9 : Option PV} :
    Ss (run P fu d) fu (gAgain ip io il ie ig) [some (.ref n), some (.int (many : Nat)), some (.int (room : Nat)), some (.ref m), some (.int ((D : Int) - 1)), some (.str w), m6, m7, m8, m9] h (retQ Q) := by
  obtain ⟨d, rfl⟩ : ∃ d', d = d' + 2 := ⟨d - 2, by omega⟩
  obtain ⟨p1, p2, p3⟩ := pw2 hD
  rw [gAgain, Ss_cons]
  simp
  rw [show ((room : Int) - 1) = ((room - 1 : Nat) : Int) by omega, show ((D : Int) - 1 - 2) = ((D - 2 : Nat) : Int) - 1 by omega]
  refine G (room - 1) names h (d + 2) _ (by omega) (by omega) (by omega) hs e fun a n2 g2 ga l2 s2 e2 k2 => ?_
  have kk := k0.trans (k2.less k0.2.1)
  have sza := ga.sz
  have dpa := ga.dp
  have za := size_pos a
  try simp
  rw [gIf]
  simp
  refine lempty_ok T.e (dep a) a g2 (d + 2) _ (Nat.le_refl _) (by omega) ga.nob fun g3 k3 => ?_
  have s3 := skk s2 k3
  have e3 := k3.get e2 (get_lt e2) (by simp)
  have kk3 := kk.trans ((kZ k3).less kk.2.1)
  simp
  cases z : hasE a with
  | false =>
    simp [gRet, retQ]
    rw [← he]
    exact q _ _ _ (hg a ga.nob ga.srch ga.dt z (by omega) (by omega)) (by omega) s3 e3 kk3
  | true =>
    simp
    refine pick_ok (d := d + 1) T.p s3 (by omega) (by omega) hfu fun v g4 v0 v1 s4 k4 => ?_
    try simp
    have e4 := k4.get e3 (get_lt e3) (by simp; omega)
    have kk4 : Kp [n, c, m] h0.length h0 g4 := kk3.trans ((kM k4).less kk3.2.1)
    refine ofN (d := d) T.p T.o s4 (by simp) (by simp) hfu fun x g5 hx s5 k5 => ?_
    have e5 := k5.get e4 (get_lt e4) (by simp; omega)
    have kk5 : Kp [n, c, m] h0.length h0 g5 := kk4.trans ((kM k5).less kk4.2.1)
    try simp
    refine lsize_ok T.l (dep a) a g5 (d + 2) _ (Nat.le_refl _) (by omega) fun g6 k6 => ?_
    have s6 := skk s5 k6
    have e6 := k6.get e5 (get_lt e5) (by simp)
    have kk6 : Kp [n, c, m] h0.length h0 g6 := kk5.trans ((kZ k6).less kk5.2.1)
    have ev : v = ((v.toNat : Nat) : Int) := by omega
    have sg : Gr (.sgn v.toNat) room (D - 2) := leaf_gr (many := many) (.inr (.inr ⟨_, by omega, rfl⟩)) h2
    have encs : enc (.sgn v.toNat) = .tup [.str "sign", .int v] := by rw [enc, ← ev]
    rw [← encs] at hx
    try simp
    by_cases cc : (size a : Int) + 3 ≤ (room : Int)
    · simp [cc, gRet, retQ]
      simp at hx
      rcases hx with rfl | rfl
      · have := q (mk (.thn (.sgn v.toNat) a)) _ _ (hg _ (by simp [nob, ga.nob]) (by rw [isS_thn, sg.srch, ga.srch]; rfl) (by simp [gp, ga.dt]; omega) (by simp [hasE]) (by simp only [size]; omega) (by simp only [dep]; omega)) (by omega) s6 e6 kk6
        rw [he] at this
        exact this
      · have := q (mk (.thn a (.sgn v.toNat))) _ _ (hg _ (by simp [nob, ga.nob]) (by rw [isS_thn, sg.srch, ga.srch]; rfl) (by simp [gp, ga.dt]; omega) (by simp [hasE]) (by simp only [size]; omega) (by simp only [dep]; omega)) (by omega) s6 e6 kk6
        rw [he] at this
        exact this
    · simp [cc, gRet, retQ]
      have := q (mk (.sgn v.toNat)) _ _ (hg _ rfl sg.srch sg.dt rfl (by simp only [size]; omega) (by simp only [dep]; omega)) (by omega) s6 e6 kk6
      rw [he, encs] at this
      exact this
theorem grow_ok (T : TxtG P ip io iLf il ie ig) (h1 : 1 ≤ many) (h2 : many ≤ 1000) (hfu : 100 < fu) (hmn : m ≠ n) (hmc : m ≠ c) : ∀ D, GrowAt P fu ig n c m many D := by
  intro D
  induction D using Nat.strongRecOn with
  | _ D ih =>
    intro room names h d Q hd hr2 hl hs e q
    obtain ⟨d, rfl⟩ : ∃ d', d = d' + 4 := ⟨d - 4, by omega⟩
    refine run_R T.g rfl ?_
    rw [csGrow, Ss_cons]
    simp [gWords]
    refine ofN (d := d + 1) (xs := wordL) T.p T.o hs (by simp [wordL]) (by simp [wordL]) hfu fun x g hx sg kg => ?_
    have eg := kg.get e (get_lt e) (by simp; omega)
    have kM' : Kp [n, c, m] h.length h g := kM kg
    have stop : Rr (run P fu (d + 3) iLf [.ref n, .int (many : Nat)] g) Q := leaf_ok (d := d) T.p T.o T.f sg h1 h2 hfu fun p g2 lp s2 k2 => by
      refine q p names g2 (leaf_gr lp h2) (Nat.le_add_right _ _) s2 (k2.get eg (get_lt eg) (by simp; omega)) ?_
      have : Kp [n, c, m] g.length g g2 := kM k2
      exact kM'.trans (this.less kM'.2.1)
    have G1 : 2 ≤ D → GrowAt P fu ig n c m many (D - 1) := fun h => ih (D - 1) (by omega)
    have G2 : 2 ≤ D → GrowAt P fu ig n c m many (D - 2) := fun h => ih (D - 2) (by omega)
    try simp
    have hx' : x = .str "then" ∨ x = .str "or" ∨ x = .str "again" ∨ x = .str "few" ∨ x = .str "take" ∨ x = .str "sign" := by
      simp [wordL] at hx
      rcases hx with rfl | rfl | rfl | rfl | rfl | rfl <;> simp
    by_cases c1 : room < 2
    · have : (room : Int) < 2 := by omega
      simp [gStop, this]
      exact stop
    have c1' : ¬ (room : Int) < 2 := by omega
    by_cases c2 : D < 2
    · have c2' : (D : Int) - 1 < 1 := by omega
      rcases hx' with rfl | rfl | rfl | rfl | rfl | rfl
      · simp [gStop, c1']
        (rw [w_eq false]; rotate_left; · decide +kernel)
        simp [c2']
        exact stop
      · simp [gStop, c1']
        (rw [w_eq false]; rotate_left; · decide +kernel)
        simp [c2']
        exact stop
      · simp [gStop, c1']
        (rw [w_eq false]; rotate_left; · decide +kernel)
        simp [c2']
        exact stop
      · simp [gStop, c1']
        (rw [w_eq false]; rotate_left; · decide +kernel)
        simp [c2']
        exact stop
      · simp [gStop, c1']
        (rw [w_eq false]; rotate_left; · decide +kernel)
        simp [c2']
        exact stop
      · simp [gStop, c1']
        (rw [w_eq true]; rotate_left; · decide +kernel)
        simp [c2']
        exact stop
    have c2' : ¬ (D : Int) - 1 < 1 := by omega
    rcases hx' with rfl | rfl | rfl | rfl | rfl | rfl
    · simp [gStop, c1']
      (rw [w_eq false]; rotate_left; · decide +kernel)
      simp [c2']
      by_cases c3 : room < 3
      · have c3' : (room : Int) < 3 := by omega
        simp [c3']
        (rw [w_in true]; rotate_left; · decide +kernel)
        simp
        exact stop
      · have c3' : ¬ (room : Int) < 3 := by omega
        simp [c3', gRest]
        (rw [w_in true]; rotate_left; · decide +kernel)
        simp
        exact two_ok (d := d + 3) (mk := .thn) T h1 h2 hfu hmn hmc (by omega) (G1 (by omega)) (by omega) (by omega) hr2 hl sg eg kM' (fun a b => rfl) (fun a b r1 r2 x y z => gr_thn (by omega) x y z) q (fun v s h z => z)
    · simp [gStop, c1']
      (rw [w_eq false]; rotate_left; · decide +kernel)
      simp [c2']
      by_cases c3 : room < 3
      · have c3' : (room : Int) < 3 := by omega
        simp [c3']
        (rw [w_in true]; rotate_left; · decide +kernel)
        simp
        exact stop
      · have c3' : ¬ (room : Int) < 3 := by omega
        simp [c3', gRest]
        (rw [w_in true]; rotate_left; · decide +kernel)
        simp
        exact two_ok (d := d + 3) (mk := .orr) T h1 h2 hfu hmn hmc (by omega) (G1 (by omega)) (by omega) (by omega) hr2 hl sg eg kM' (fun a b => rfl) (fun a b r1 r2 x y z => gr_orr (by omega) x y z) q (fun v s h z => z)
    · simp [gStop, c1']
      (rw [w_eq false]; rotate_left; · decide +kernel)
      simp [c2']
      by_cases c3 : room < 3
      · have c3' : (room : Int) < 3 := by omega
        simp [c3']
        (rw [w_in false]; rotate_left; · decide +kernel)
        simp [gRest]
        (rw [w_in false]; rotate_left; · decide +kernel)
        simp
        (rw [w_eq false]; rotate_left; · decide +kernel)
        simp
        exact again_ok (d := d + 3) (mk := .agn) T h1 h2 hfu hmn hmc (by omega) (G2 (by omega)) (by omega) (by omega) hr2 hl sg eg kM' (fun a => rfl) (fun a x1 x2 x3 x4 x5 x6 => ⟨x1, by rw [isS_agn, x4, x2]; rfl, x3, by simp only [size]; omega, by simp only [dep]; omega⟩) q
      · have c3' : ¬ (room : Int) < 3 := by omega
        simp [c3', gRest]
        (rw [w_in false]; rotate_left; · decide +kernel)
        simp
        (rw [w_eq false]; rotate_left; · decide +kernel)
        simp
        exact again_ok (d := d + 3) (mk := .agn) T h1 h2 hfu hmn hmc (by omega) (G2 (by omega)) (by omega) (by omega) hr2 hl sg eg kM' (fun a => rfl) (fun a x1 x2 x3 x4 x5 x6 => ⟨x1, by rw [isS_agn, x4, x2]; rfl, x3, by simp only [size]; omega, by simp only [dep]; omega⟩) q
    · simp [gStop, c1']
      (rw [w_eq false]; rotate_left; · decide +kernel)
      simp [c2']
      by_cases c3 : room < 3
      · have c3' : (room : Int) < 3 := by omega
        simp [c3']
        (rw [w_in false]; rotate_left; · decide +kernel)
        simp [gRest]
        (rw [w_in false]; rotate_left; · decide +kernel)
        simp
        (rw [w_eq false]; rotate_left; · decide +kernel)
        simp
        exact again_ok (d := d + 3) (mk := .few) T h1 h2 hfu hmn hmc (by omega) (G2 (by omega)) (by omega) (by omega) hr2 hl sg eg kM' (fun a => rfl) (fun a x1 x2 x3 x4 x5 x6 => ⟨x1, by rw [isS_few, x4, x2]; rfl, x3, by simp only [size]; omega, by simp only [dep]; omega⟩) q
      · have c3' : ¬ (room : Int) < 3 := by omega
        simp [c3', gRest]
        (rw [w_in false]; rotate_left; · decide +kernel)
        simp
        (rw [w_eq false]; rotate_left; · decide +kernel)
        simp
        exact again_ok (d := d + 3) (mk := .few) T h1 h2 hfu hmn hmc (by omega) (G2 (by omega)) (by omega) (by omega) hr2 hl sg eg kM' (fun a => rfl) (fun a x1 x2 x3 x4 x5 x6 => ⟨x1, by rw [isS_few, x4, x2]; rfl, x3, by simp only [size]; omega, by simp only [dep]; omega⟩) q
    · simp [gStop, c1']
      (rw [w_eq false]; rotate_left; · decide +kernel)
      simp [c2']
      by_cases c3 : room < 3
      · have c3' : (room : Int) < 3 := by omega
        simp [c3']
        (rw [w_in false]; rotate_left; · decide +kernel)
        simp [gRest]
        (rw [w_in false]; rotate_left; · decide +kernel)
        simp
        (rw [w_eq true]; rotate_left; · decide +kernel)
        simp
        exact take_ok (d := d + 3) T h1 h2 hfu hmn hmc (by omega) (G1 (by omega)) (by omega) (by omega) hr2 hl sg eg kM' q (fun v s h z => z)
      · have c3' : ¬ (room : Int) < 3 := by omega
        simp [c3', gRest]
        (rw [w_in false]; rotate_left; · decide +kernel)
        simp
        (rw [w_eq true]; rotate_left; · decide +kernel)
        simp
        exact take_ok (d := d + 3) T h1 h2 hfu hmn hmc (by omega) (G1 (by omega)) (by omega) (by omega) hr2 hl sg eg kM' q (fun v s h z => z)
    · simp [gStop, c1']
      (rw [w_eq true]; rotate_left; · decide +kernel)
      simp
      exact stop
end
end K28
end EV

set_option Elab.async false
set_option linter.all false
set_option maxRecDepth 100000
set_option maxHeartbeats 4000000
/-! K28k: a pattern within others; what is shown. -/
namespace EV
open PySem PySem.Spec
namespace K28
def wBody (io : Nat) : CSs := (.cons (.par [4, 5] (.cons (.call io (.cons (.var 0) (.cons (.lst (.cons (.lit (.str "then")) (.cons (.lit (.str "or")) (.cons (.lit (.str "take")) (.cons (.lit (.str "again")) .nil))))) .nil))) (.cons (.call io (.cons (.var 0) (.cons (.lst (.cons (.tup (.cons (.lit (.str "sign")) (.cons (.lit (.int 0)) .nil))) (.cons (.tup (.cons (.lit (.str "empty")) .nil)) .nil))) .nil))) .nil)))
 (.cons (.ifs (.cmp .isIn (.var 4) (.tup (.cons (.lit (.str "then")) (.cons (.lit (.str "or")) .nil))))
 (.cons (.asg (.nm 1) (.call io (.cons (.var 0) (.cons (.lst (.cons (.tup (.cons (.var 4) (.cons (.var 1) (.cons (.var 5) .nil)))) (.cons (.tup (.cons (.var 4) (.cons (.var 5) (.cons (.var 1) .nil)))) .nil))) .nil))))
 .nil)
 (.cons (.ifs (.cmp .eq (.var 4) (.lit (.str "again")))
 (.cons (.asg (.nm 1) (.tup (.cons (.var 4) (.cons (.tup (.cons (.lit (.str "then")) (.cons (.tup (.cons (.lit (.str "sign")) (.cons (.lit (.int 0)) .nil))) (.cons (.var 1) .nil)))) .nil))))
 .nil)
 (.cons (.asg (.nm 1) (.tup (.cons (.lit (.str "take")) (.cons (.bin .add (.lit (.str "y")) (.bi .str (.cons (.var 3) .nil))) (.cons (.var 1) .nil)))))
 .nil))
 .nil))
 .nil))
def csWithin (ip io : Nat) : CSs := (.cons (.frr (.nm 3) (.rng (.cons (.call ip (.cons (.var 0) (.cons (.var 2) .nil))) .nil))
 (wBody io))
 (.cons (.ret (.var 1))
 .nil))
section
variable {P : List Fn} {fu d ip io iw : Nat} {n c m : Nat} {h : EH} {Q : PV → EH → Prop} {p : Pt} {many : Nat}
theorem for_N {F : Ca} {s : Sg} {i : Nat} {it : CI} {ss : CSs} {D : Fl → Sg → EH → Prop} (I : Nat → Nat → Sg → EH → Prop) (hi : Ei F fu it s h fun J h1 => ∃ N, J = .st (rangeL 0 1 N) ∧ I N 0 s h1)
    (step : ∀ N k s g, k < N → I N k s g → Ss F fu ss (s.set i (some (.int (k : Nat)))) g (turn (I N (k + 1)) D)) (fin : ∀ N s g, I N N s g → D .nx s g) : S F fu (.frr (.nm i) it ss) s h D := by
  obtain ⟨⟨J, h1⟩, e, N, rfl, h0⟩ := hi
  refine for_st (I N) e h0 ?_ ?_
  · intro k x s g hx hI
    rw [K39.rl_nat, List.getElem?_map] at hx
    obtain ⟨j, hj, rfl⟩ := Option.map_eq_some_iff.mp hx
    have hk := (List.getElem?_eq_some_iff.mp hj).1
    rw [List.length_range] at hk
    have : j = k := by rw [List.getElem?_range hk] at hj; exact (Option.some.inj hj).symm
    subst this
    simp only [bindT, R_some]
    exact step N j s g hk hI
  · intro s g hI
    rw [rangeL_len] at hI
    exact fin N s g hI
theorem y_all : (List.range 8).all (fun k => decide (("y" : Str).length + (toString (k : Int) : Str).length ≤ 1000)) = true := by decide +kernel
theorem within_ok {p0 : Pt} (hP : P[ip]? = some ⟨2, 4, csPick⟩) (hO : P[io]? = some ⟨2, 2, csOf ip⟩) (hW : P[iw]? = some ⟨3, 6, csWithin ip io⟩) (hs : Src n c h) (hfu : 100 < fu)
    (q : ∀ p h', isS p = isS p0 → dep p ≤ dep p0 + 8 → size p ≤ size p0 + 12 → Src n c h' → Kp [n, c] h.length h h' → Q (enc p) h') : Rr (run P fu (d + 3) iw [.ref n, enc p0, .int 5] h) Q := by
  refine run_R hW rfl ?_
  rw [csWithin, Ss_cons]
  obtain ⟨I, hI⟩ : ∃ I : Nat → Nat → Sg → EH → Prop, ∀ N k s g, I N k s g ↔ (∃ (p : Pt) (m3 m4 m5 : Option PV), s = [some (.ref n), some (enc p), some (.int 5), m3, m4, m5] ∧ k ≤ N ∧ N ≤ 4 ∧ isS p = isS p0 ∧ dep p ≤ dep p0 + 2 * k ∧ size p ≤ size p0 + 3 * k ∧ Src n c g ∧ Kp [n, c] h.length h g) := ⟨_, fun _ _ _ _ => Iff.rfl⟩
  refine for_N I ?_ ?_ ?_
  · simp
    refine pick_ok (d := d + 1) hP hs (by omega) (by omega) hfu fun v g v0 v1 s1 k1 => ?_
    rw [range1 (small_of (by omega) (by omega))]
    simp only [R_some]
    exact ⟨v.toNat, rfl, (hI _ _ _ _).mpr ⟨p0, none, none, none, rfl, by omega, by omega, rfl, by omega, by omega, s1, k1⟩⟩
  · intro N k s g hk hj
    obtain ⟨p, m3, m4, m5, rfl, _, hN, e1, e2, e3, sg, kg⟩ := (hI _ _ _ _).mp hj
    simp only [List.set_cons_succ, List.set_cons_zero]
    rw [wBody, Ss_cons]
    simp
    refine ofN (d := d) hP hO sg (by simp) (by simp) hfu fun x g2 hx s2 k2 => ?_
    try simp
    refine ofN (d := d) hP hO s2 (by simp) (by simp) hfu fun y g3 hy s3 k3 => ?_
    have kk := (kg.trans (k2.less kg.2.1))
    have kk3 := kk.trans (k3.less kk.2.1)
    simp [bindAll]
    obtain ⟨o, rfl, so, do', zo⟩ : ∃ o, y = enc o ∧ isS o = true ∧ dep o = 1 ∧ size o = 1 := by
      simp at hy
      rcases hy with rfl | rfl
      · exact ⟨.sgn 0, rfl, rfl, rfl, rfl⟩
      · exact ⟨.emp, rfl, rfl, rfl, rfl⟩
    simp at hx
    have nx : ∀ p' g', isS p' = isS p0 → dep p' ≤ dep p + 2 → size p' ≤ size p + 3 → Src n c g' → Kp [n, c] h.length h g' → ∀ m4 m5, I N (k + 1) [some (.ref n), some (enc p'), some (.int 5), some (.int (k : Nat)), m4, m5] g' := fun p' g' a1 a2 a3 a4 a5 m4 m5 =>
      (hI _ _ _ _).mpr ⟨p', _, _, _, rfl, by omega, hN, a1, by omega, by omega, a4, a5⟩
    have dp := dep_pos p
    rcases hx with rfl | rfl | rfl | rfl
    · (rw [w_in true]; rotate_left; · decide +kernel)
      simp
      refine ofN (d := d) hP hO s3 (by simp) (by simp) hfu fun z g4 hz s4 k4 => ?_
      have kk4 := kk3.trans (k4.less kk3.2.1)
      simp at hz
      simp [turn]
      rcases hz with rfl | rfl
      · exact nx (.thn p o) g4 (by rw [isS_thn, so, e1]; simp) (by simp only [dep]; omega) (by simp only [size]; omega) s4 kk4 _ _
      · exact nx (.thn o p) g4 (by rw [isS_thn, so, e1]; simp) (by simp only [dep]; omega) (by simp only [size]; omega) s4 kk4 _ _
    · (rw [w_in true]; rotate_left; · decide +kernel)
      simp
      refine ofN (d := d) hP hO s3 (by simp) (by simp) hfu fun z g4 hz s4 k4 => ?_
      have kk4 := kk3.trans (k4.less kk3.2.1)
      simp at hz
      simp [turn]
      rcases hz with rfl | rfl
      · exact nx (.orr p o) g4 (by rw [isS_orr, so, e1]; simp) (by simp only [dep]; omega) (by simp only [size]; omega) s4 kk4 _ _
      · exact nx (.orr o p) g4 (by rw [isS_orr, so, e1]; simp) (by simp only [dep]; omega) (by simp only [size]; omega) s4 kk4 _ _
    · (rw [w_in false]; rotate_left; · decide +kernel)
      simp
      (rw [w_eq false]; rotate_left; · decide +kernel)
      simp
      have lg : (k : Int).natAbs.log2 < 1920 := by
        rw [Int.natAbs_natCast]
        by_cases z : k = 0
        · rw [z]; decide
        · have := (Nat.log2_lt z).mpr (show k < 2 ^ 64 by omega)
          omega
      have ly := List.all_eq_true.mp y_all k (by simp; omega)
      simp only [decide_eq_true_eq] at ly
      rw [b_strI lg]
      simp only [opB]
      rw [if_pos (by rw [sz]; omega)]
      simp [turn]
      exact nx (.tak _ p) g3 (by rw [isS_tak, e1]) (by simp only [dep]; omega) (by simp only [size]; omega) s3 kk3 _ _
    · (rw [w_in false]; rotate_left; · decide +kernel)
      simp
      (rw [w_eq true]; rotate_left; · decide +kernel)
      simp [turn]
      exact nx (.agn (.thn (.sgn 0) p)) g3 (by rw [isS_agn, isS_thn, e1]; simp [hasE, isS, parts, bad]) (by simp only [dep]; omega) (by simp only [size]; omega) s3 kk3 _ _
  · intro N s g hj
    obtain ⟨p, m3, m4, m5, rfl, _, hN, e1, e2, e3, sg, kg⟩ := (hI _ _ _ _).mp hj
    simp [retQ]
    exact q p g e1 (by omega) (by omega) sg kg
end
end K28
end EV

set_option Elab.async false
set_option linter.all false
set_option maxRecDepth 100000
set_option maxHeartbeats 4000000
/-! K28l: what is shown. -/
namespace EV
open PySem PySem.Spec
namespace K28
def datP : Pt → PyData
  | .non => .tuple [.str "none"]
  | .emp => .tuple [.str "empty"]
  | .sgn s => .tuple [.str "sign", .int (s : Nat)]
  | .thn a b => .tuple [.str "then", datP a, datP b]
  | .orr a b => .tuple [.str "or", datP a, datP b]
  | .bth a b => .tuple [.str "both", datP a, datP b]
  | .nt a => .tuple [.str "not", datP a]
  | .agn a => .tuple [.str "again", datP a]
  | .few a => .tuple [.str "few", datP a]
  | .tak x a => .tuple [.str "take", .str x, datP a]
def datM : Mv → PyData
  | .stop => .tuple [.str "stop"]
  | .go b => .tuple [.str "go", .int (b : Nat)]
  | .sign s b => .tuple [.str "sign", .int (s : Nat), .int (b : Nat)]
  | .choice a b => .tuple [.str "choice", .int (a : Nat), .int (b : Nat)]
section
variable {h : EH} {p : Pt}
theorem d1 {m ba bz : Nat} {w : Str} {a : PV} {da : PyData} (hw : gS w = true) (hz : w.cps.size ≤ 10) (x : Dat h m ba a da) (hb : ba + 13 ≤ bz) : Dat h (m + 1) bz (.tup [.str w, a]) (.tuple [.str w, da]) :=
  ((Dats.tup (Dats.cons (Dat.str (b := 10) hw hz) (Dats.cons x (Dats.nil (b := 0))))).more (by omega))
theorem d2 {m ba bb bz : Nat} {w : Str} {a b : PV} {da db : PyData} (hw : gS w = true) (hz : w.cps.size ≤ 10) (x : Dat h m ba a da) (y : Dat h m bb b db) (hb : ba + bb + 14 ≤ bz) : Dat h (m + 1) bz (.tup [.str w, a, b]) (.tuple [.str w, da, db]) :=
  ((Dats.tup (Dats.cons (Dat.str (b := 10) hw hz) (Dats.cons x (Dats.cons y (Dats.nil (b := 0)))))).more (by omega))
theorem dI {m k : Nat} (hk : k < 1000000) : Dat h m 0 (.int (k : Nat)) (.int (k : Nat)) := Dat.int (by rw [Int.natAbs_natCast]; omega)
theorem dat_enc : ∀ (p : Pt), gp p = true → Dat h (dep p) (40 * size p) (enc p) (datP p)
  | .non, _ => (Dats.tup (Dats.cons (Dat.str (b := 10) (by decide +kernel) (by decide +kernel)) (Dats.nil (b := 0)))).more (by simp [size])
  | .emp, _ => (Dats.tup (Dats.cons (Dat.str (b := 10) (by decide +kernel) (by decide +kernel)) (Dats.nil (b := 0)))).more (by simp [size])
  | .sgn s, hp => by
    simp [gp] at hp
    exact d1 (by decide +kernel) (by decide +kernel) (dI (by omega)) (by simp [size])
  | .thn a b, hp => by
    simp [gp] at hp
    exact d2 (by decide +kernel) (by decide +kernel) ((dat_enc a hp.1).deep (Nat.le_max_left _ _)) ((dat_enc b hp.2).deep (Nat.le_max_right _ _)) (by simp only [size]; omega)
  | .orr a b, hp => by
    simp [gp] at hp
    exact d2 (by decide +kernel) (by decide +kernel) ((dat_enc a hp.1).deep (Nat.le_max_left _ _)) ((dat_enc b hp.2).deep (Nat.le_max_right _ _)) (by simp only [size]; omega)
  | .bth a b, hp => by
    simp [gp] at hp
    exact d2 (by decide +kernel) (by decide +kernel) ((dat_enc a hp.1).deep (Nat.le_max_left _ _)) ((dat_enc b hp.2).deep (Nat.le_max_right _ _)) (by simp only [size]; omega)
  | .nt a, hp => d1 (by decide +kernel) (by decide +kernel) (dat_enc a hp) (by simp only [size]; omega)
  | .agn a, hp => d1 (by decide +kernel) (by decide +kernel) (dat_enc a hp) (by simp only [size]; omega)
  | .few a, hp => d1 (by decide +kernel) (by decide +kernel) (dat_enc a hp) (by simp only [size]; omega)
  | .tak x a, hp => by
    simp [gp, nmOk] at hp
    exact d2 (by decide +kernel) (by decide +kernel) (Dat.str (b := 20) hp.1.1 hp.1.2) (dat_enc a hp.2) (by simp only [size]; omega)
def okM : Mv → Bool
  | .stop => true
  | .go b => decide (b ≤ 8000)
  | .sign s b => decide (s < 1000) && decide (b ≤ 8000)
  | .choice a b => decide (a ≤ 8000) && decide (b ≤ 8000)
theorem dat_mv {m : Mv} (ok : okM m = true) : Dat h 1 30 (encM m) (datM m) := by
  cases m with
  | stop => exact (Dats.tup (Dats.cons (Dat.str (b := 10) (by decide +kernel) (by decide +kernel)) (Dats.nil (b := 0)))).more (by simp)
  | go b => simp [okM] at ok; exact d1 (by decide +kernel) (by decide +kernel) (dI (by omega)) (by omega)
  | sign s b => simp [okM] at ok; exact d2 (by decide +kernel) (by decide +kernel) (dI (by omega)) (dI (by omega)) (by omega)
  | choice a b => simp [okM] at ok; exact d2 (by decide +kernel) (by decide +kernel) (dI (by omega)) (dI (by omega)) (by omega)
def sgM : Mv → Bool
  | .sign s _ => decide (s < 1000)
  | _ => true
theorem mv_sg : ∀ (p : Pt) (n b : Nat), gp p = true → ∀ m ∈ mvb p n b, sgM m.1 = true
  | .non, n, b, hp, m, hm => by simp [mvb] at hm; subst hm; rfl
  | .emp, n, b, hp, m, hm => by simp [mvb] at hm; subst hm; rfl
  | .sgn s, n, b, hp, m, hm => by simp [mvb] at hm; subst hm; exact hp
  | .thn p q, n, b, hp, m, hm => by
    simp [gp] at hp
    simp [mvb] at hm
    rcases hm with rfl | hm | hm
    · rfl
    · exact mv_sg p _ _ hp.1 m hm
    · exact mv_sg q _ _ hp.2 m hm
  | .orr p q, n, b, hp, m, hm => by
    simp [gp] at hp
    simp [mvb] at hm
    rcases hm with rfl | hm | hm
    · rfl
    · exact mv_sg p _ _ hp.1 m hm
    · exact mv_sg q _ _ hp.2 m hm
  | .bth _ _, _, _, _, m, hm => by simp [mvb] at hm
  | .nt _, _, _, _, m, hm => by simp [mvb] at hm
  | .agn p, n, b, hp, m, hm => by
    simp [mvb] at hm
    rcases hm with rfl | hm
    · rfl
    · exact mv_sg p _ _ hp m hm
  | .few p, n, b, hp, m, hm => by
    simp [mvb] at hm
    rcases hm with rfl | hm
    · rfl
    · exact mv_sg p _ _ hp m hm
  | .tak _ p, n, b, hp, m, hm => by
    simp [gp] at hp
    simp [mvb] at hm
    rcases hm with rfl | hm
    · rfl
    · exact mv_sg p _ _ hp.2 m hm
theorem mv_okM (hn : nob p = true) (hp : gp p = true) (hz : size p ≤ 8000) : ∀ m ∈ mv p 0 (size p), okM m = true := by
  intro m hm
  obtain ⟨x, hx, rfl⟩ := List.mem_map.mp hm
  have t := mv_tg (N := 8000) p 0 (size p) hn (by omega) hz x hx
  have g := mv_sg p 0 (size p) hp x hx
  obtain ⟨y, k⟩ := x
  cases y <;> simp [tgB, sgM, okM] at t g ⊢ <;> omega
theorem dats_mv {ms : List Mv} (ok : ∀ m ∈ ms, okM m = true) : Dats h 1 (ms.length * 31) (ms.map encM) (ms.map datM) := Dats.map fun m hm => dat_mv (ok m hm)
def datT : Nat × Nat × Nat → PyData
  | (n, t, u) => .tuple [.int (n : Nat), .int (t : Nat), .int (u : Nat)]
theorem dat_T {s : Nat × Nat × Nat} (h1 : s.1 < 1000000) (h2 : s.2.1 < 1000000) (h3 : s.2.2 < 1000000) : Dat h 1 10 (encT s) (datT s) := by
  obtain ⟨n, t, u⟩ := s
  simp only at h1 h2 h3
  exact (Dats.tup (Dats.cons (dI h1) (Dats.cons (dI h2) (Dats.cons (dI h3) (Dats.nil (b := 0)))))).more (by omega)
theorem fin_inB {ms : List Mv} {tx row : List Nat} (w : WF ms) : ∀ (k : Nat) (s : Nat × Nat × Nat), inB ms tx row s → inB ms tx row (fin ms tx row k s)
  | 0, s, b => b
  | k + 1, s, b => by
    simp only [fin]
    split
    · exact b
    · rename_i s' e
      exact fin_inB w k s' (stp_ok w b e).1
theorem F_inB {ms : List Mv} {tx row : List Nat} (w : WF ms) {s : Nat × Nat × Nat} (b : inB ms tx row s) : inB ms tx row (F ms tx row s) := fin_inB w _ s b
end
end K28
end EV

set_option Elab.async false
set_option linter.all false
set_option maxRecDepth 100000
set_option maxHeartbeats 4000000
/-! K01: parts of patterns: takes, whether plain, with other inner ones. -/
namespace EV
open PySem PySem.Spec
namespace K01
open K28
local macro_rules | `(tactic| decreasing_trivial) => `(tactic| (rw [w_eq true]; rotate_left; focus (decide +kernel)))
local macro_rules | `(tactic| decreasing_trivial) => `(tactic| (rw [w_eq false]; rotate_left; focus (decide +kernel)))
local macro_rules | `(tactic| decreasing_trivial) => `(tactic| (rw [w_in true]; rotate_left; focus (decide +kernel)))
local macro_rules | `(tactic| decreasing_trivial) => `(tactic| (rw [w_in false]; rotate_left; focus (decide +kernel)))
local macro_rules | `(tactic| decreasing_trivial) => `(tactic| (rw [w_nin true]; rotate_left; focus (decide +kernel)))
local macro_rules | `(tactic| decreasing_trivial) => `(tactic| (rw [w_nin false]; rotate_left; focus (decide +kernel)))
section
variable {F : Ca} {fu v r : Nat} {e c : CE} {s : Sg} {h : EH} {Qs : List PV → EH → Prop}
/-- items of a list that stays, told one by one, some left out -/
theorem Cp_fm {α : Type} {ys : List α} {f : α → PV} {g : α → Option PV} (hr : h[r]? = some (.lst (ys.map f))) (hl : ys.length ≤ 1000000) (hfu : ys.length < fu)
    (step : ∀ y ∈ ys, E F fu c (s.set v (some (f y))) h fun b h1 => h1 = h ∧ b = .bl (g y).isSome ∧ ∀ z, g y = some z → E F fu e (s.set v (some (f y))) h fun x h2 => x = z ∧ h2 = h)
    (q : Qs (ys.filterMap g) h) : Cp F fu e (.nm v) c s (.dy r) h Qs := by
  refine Cp_J (fun i acc g' => g' = h ∧ i ≤ ys.length ∧ acc = (ys.take i).filterMap g) (B := ys.length) (fun _ => by simp) hfu ⟨rfl, Nat.zero_le _, rfl⟩ ?_
  rintro i acc g' ⟨rfl, hi, rfl⟩
  refine ⟨hi, (ys.map f)[i]?, by simp only [item, hr], ?_⟩
  rw [List.getElem?_map]
  cases hy : ys[i]? with
  | none =>
    have := List.getElem?_eq_none_iff.mp hy
    rw [List.take_of_length_le this]
    exact q
  | some y =>
    have hi2 := (List.getElem?_eq_some_iff.mp hy).1
    simp only [Option.map_some, bindT, R_some]
    refine (step y (List.mem_of_getElem? hy)).mono fun b h1 ⟨e1, e2, e3⟩ => ?_
    subst e1 e2
    rw [T_bl]
    have tk : (ys.take (i + 1)).filterMap g = (ys.take i).filterMap g ++ (g y).toList := by
      rw [List.take_add_one, hy]
      cases hg : g y <;> simp [List.filterMap_append, List.filterMap_cons, hg]
    have lq : ((ys.take i).filterMap g).length ≤ 1000000 := Nat.le_trans (List.length_filterMap_le _ _) (by rw [List.length_take]; omega)
    cases hg : g y with
    | none =>
      simp only [Option.isSome_none, Bool.false_eq_true, if_false]
      exact ⟨trivial, hi2, by rw [tk, hg]; simp⟩
    | some z =>
      simp only [Option.isSome_some, if_true]
      refine (e3 z hg).mono fun x h2 ⟨a1, a2⟩ => ?_
      subst a1 a2
      exact ⟨by rw [sz]; omega, rfl, hi2, by rw [tk, hg]; rfl⟩
end
def takesL : Pt → List Str
  | .tak x a => x :: takesL a
  | .thn a b => takesL a ++ takesL b
  | .orr a b => takesL a ++ takesL b
  | .bth a b => takesL a ++ takesL b
  | .nt a => takesL a
  | .agn a => takesL a
  | .few a => takesL a
  | _ => []
def tkO : Pt → Option PV
  | .tak x _ => some (.str x)
  | _ => none
theorem takes_eq (p : Pt) : (parts p).filterMap tkO = (takesL p).map PV.str := by
  induction p <;> simp_all [parts, takesL, tkO, List.filterMap_append, List.filterMap_cons]
def bare : Pt → Bool
  | .few _ => true
  | .tak _ _ => true
  | _ => false
def plain (p : Pt) : Bool := (parts p).all fun c => !bare c
def csTakes (ip : Nat) : CSs := .cons (.ret (.comp (.idx (.var 1) (.lit (.int 1))) (.nm 1) (.val (.call ip (.cons (.var 0) .nil))) (.cmp .eq (.idx (.var 1) (.lit (.int 0))) (.lit (.str "take"))) [1])) .nil
def csPlain (ip : Nat) : CSs := .cons (.ret (.bi .all (.cons (.comp (.cmp .notIn (.idx (.var 1) (.lit (.int 0))) (.tup (.cons (.lit (.str "few")) (.cons (.lit (.str "take")) .nil)))) (.nm 1) (.val (.call ip (.cons (.var 0) .nil))) (.lit (.bl true)) [1]) .nil))) .nil
section
variable {P : List Fn} {fu d ii ip is it : Nat} {h : EH} {Q : PV → EH → Prop} {p : Pt}
theorem takes_ok (hp : ∀ (Q : PV → EH → Prop), (∀ r g, h.length ≤ r → g[r]? = some (.lst ((parts p).map enc)) → Kp [] h.length h g → Q (.ref r) g) → Rr (run P fu d ip [enc p] h) Q) (hT : P[it]? = some ⟨1, 2, csTakes ip⟩) (hfu : 20000 < fu) (hz : size p ≤ 10000)
    (q : ∀ r g, h.length ≤ r → g[r]? = some (.lst ((takesL p).map PV.str)) → Kp [] h.length h g → Q (.ref r) g) : Rr (run P fu (d + 1) it [enc p] h) Q := by
  refine run_R hT rfl ?_
  simp [csTakes]
  refine hp _ fun r g hr e kg => ?_
  simp only [itrOf, e, wipeE]
  refine Cp_fm (g := tkO) e (by rw [parts_len]; omega) (by rw [parts_len]; omega) (fun y hy => ?_) ?_
  · cases y <;> simp [enc, seqAt, tkO] <;> decreasing_trivial <;> simp
  · rw [takes_eq]
    simp only [retQ]
    exact q _ _ kg.2.1 get_new (kg.trans (Kp.new kg.2.1))
theorem plain_ok (hp : ∀ (Q : PV → EH → Prop), (∀ r g, h.length ≤ r → g[r]? = some (.lst ((parts p).map enc)) → Kp [] h.length h g → Q (.ref r) g) → Rr (run P fu d ip [enc p] h) Q) (hT : P[it]? = some ⟨1, 2, csPlain ip⟩) (hfu : 20000 < fu) (hz : size p ≤ 10000)
    (q : ∀ g, Kp [] h.length h g → Q (.bl (plain p)) g) : Rr (run P fu (d + 1) it [enc p] h) Q := by
  refine run_R hT rfl ?_
  simp [csPlain]
  refine hp _ fun r g hr e kg => ?_
  simp only [itrOf, e, wipeE]
  refine Cp_fm (g := fun c => some (.bl (!bare c))) e (by rw [parts_len]; omega) (by rw [parts_len]; omega) (fun y hy => ?_) ?_
  · cases y <;> simp [enc, seqAt, bare] <;> decreasing_trivial <;> simp
  · have e2 : (parts p).filterMap (fun c => some (PV.bl (!bare c))) = ((parts p).map fun c => !bare c).map PV.bl := by
      rw [List.filterMap_eq_map', List.map_map]
      rfl
    rw [e2]
    rw [b_all get_new]
    simp only [retQ]
    have : ((parts p).map fun c => !bare c).all id = plain p := by unfold plain; rw [List.all_map]; rfl
    rw [this]
    exact q _ (kg.trans (Kp.new kg.2.1))
end
end K01
end EV

set_option Elab.async false
set_option linter.all false
set_option maxRecDepth 100000
set_option maxHeartbeats 4000000
/-! EV33: zip, enumerate and range in comprehensions whose items change nothing; bits. -/
namespace EV
open PySem PySem.Spec
open K39 (rl_nat)
section
variable {F : Ca} {fu : Nat} {s : Sg} {h : EH} {a b c e : CE} {Q : PV → EH → Prop} {Qb : Bool → Prop} {Qi : Itr → EH → Prop} {Qs : List PV → EH → Prop}
@[simp] theorem Ei_zip {st : Bool} : Ei F fu (.zip st a b) s h Qi ↔ E F fu a s h fun x h1 => E F fu b s h1 fun y h2 => (isLT h2 x).isSome = true ∧ (isLT h2 y).isSome = true ∧ Qi (.zp st x y) h2 := by
  unfold Ei E
  simp only [evI]
  cases ev F fu a s h with
  | none => simp only [R_none]
  | some x =>
    obtain ⟨x, h1⟩ := x
    simp only [R_some]
    cases ev F fu b s h1 with
    | none => simp only [R_none]
    | some y =>
      obtain ⟨y, h2⟩ := y
      simp only [R_some, R_if, and_assoc]
@[simp] theorem E_inv : E F fu (.inv a) s h Q ↔ E F fu a s h fun x h1 => ∃ i, x = .int i ∧ Q (.int (Builtin.bitNot i)) h1 := by
  unfold E
  simp only [ev]
  cases ev F fu a s h with
  | none => simp only [R_none]
  | some x =>
    obtain ⟨x, h1⟩ := x
    simp only [R_some]
    cases x <;> simp [R_none, R_some]
/-- items of the shape f 0, f 1, .. -/
def tab (n : Nat) (f : Nat → PV) : List PV := (List.range n).map f
theorem tab_len {n : Nat} {f : Nat → PV} : (tab n f).length = n := by simp [tab]
theorem tab_get {n i : Nat} {f : Nat → PV} (hi : i < n) : (tab n f)[i]? = some (f i) := by simp [tab, hi]
theorem tab_ext {n : Nat} {f g : Nat → PV} (e : ∀ i < n, f i = g i) : tab n f = tab n g := by
  unfold tab
  exact List.map_congr_left fun i hi => e i (List.mem_range.mp hi)
theorem tab_take {n i : Nat} {f : Nat → PV} (hi : i ≤ n) : tab i f = (tab n f).take i := by
  unfold tab
  rw [← List.map_take, List.take_range, Nat.min_eq_left hi]
theorem tab_succ {n : Nat} {f : Nat → PV} : tab (n + 1) f = tab n f ++ [f n] := by simp [tab, List.range_succ]
theorem rl_tab {n : Nat} : rangeL 0 1 n = tab n fun i => .int (i : Nat) := rl_nat
/-- items that change nothing, whatever is walked -/
theorem Cp_tabJ {t : Tg} {J : Itr} {n : Nat} (k : Nat → PV) (it : Nat → PV) (hJ : ∀ xs, J ≠ .st xs) (hn : n < fu) (hn2 : n ≤ 16777216)
    (hi : ∀ i < n, item J i h = some (some (it i))) (he : item J n h = some none)
    (step : ∀ i < n, R (bindT t (it i) s) fun s2 => E F fu e s2 h fun y h2 => y = k i ∧ h2 = h) (q : Qs (tab n k) h) : Cp F fu e t (.lit (.bl true)) s J h Qs := by
  refine Cp_J (fun i acc g => g = h ∧ i ≤ n ∧ acc = tab i k) (B := n) hJ hn ⟨rfl, Nat.zero_le _, rfl⟩ ?_
  rintro i acc g ⟨rfl, hin, rfl⟩
  refine ⟨hin, ?_⟩
  by_cases c : i < n
  · rw [hi i c]
    simp only [R_some, E_lit, T_bl, if_true]
    refine (step i c).mono fun s2 z => ?_
    exact z.mono fun y h2 ⟨e1, e2⟩ => ⟨by rw [tab_len, sz]; omega, e2, c, by rw [tab_succ, e1]⟩
  · have : i = n := by omega
    subst this
    rw [he]
    simpa using q
theorem Cp_tab {t : Tg} {n : Nat} (k : Nat → PV) (it : Nat → PV) (hn2 : n ≤ 16777216)
    (step : ∀ i < n, R (bindT t (it i) s) fun s2 => E F fu e s2 h fun y h2 => y = k i ∧ h2 = h) (q : Qs (tab n k) h) : Cp F fu e t (.lit (.bl true)) s (.st (tab n it)) h Qs := by
  refine Cp_st (fun i acc g => g = h ∧ acc = tab i k) ⟨rfl, rfl⟩ ?_ ?_
  · rintro i acc x g hx ⟨rfl, rfl⟩
    have c : i < n := by have := (List.getElem?_eq_some_iff.mp hx).1; rwa [tab_len] at this
    rw [tab_get c] at hx
    cases hx
    simp only [E_lit, T_bl, if_true]
    refine (step i c).mono fun s2 z => ?_
    exact z.mono fun y h2 ⟨e1, e2⟩ => ⟨by rw [tab_len, sz]; omega, e2, by rw [tab_succ, e1]⟩
  · rintro acc g ⟨rfl, rfl⟩
    rw [tab_len]
    exact q
theorem Cp_rng {n v : Nat} (k : Nat → PV) (hn2 : n ≤ 16777216)
    (step : ∀ i < n, E F fu e (s.set v (some (.int (i : Nat)))) h fun y h2 => y = k i ∧ h2 = h) (q : Qs (tab n k) h) : Cp F fu e (.nm v) (.lit (.bl true)) s (.st (rangeL 0 1 n)) h Qs := by
  rw [rl_tab]
  refine Cp_tab k _ hn2 (fun i hi => ?_) q
  simp only [bindT, R_some]
  exact step i hi
theorem Cp_zp {n v w r1 r2 : Nat} {st : Bool} (f g k : Nat → PV) (hn : n < fu) (hn2 : n ≤ 16777216) (e1 : h[r1]? = some (.lst (tab n f))) (e2 : h[r2]? = some (.lst (tab n g)))
    (step : ∀ i < n, E F fu e ((s.set v (some (f i))).set w (some (g i))) h fun y h2 => y = k i ∧ h2 = h) (q : Qs (tab n k) h) : Cp F fu e (.tp [v, w]) (.lit (.bl true)) s (.zp st (.ref r1) (.ref r2)) h Qs := by
  refine Cp_tabJ k (fun i => .tup [f i, g i]) (fun _ => by simp) hn hn2 (fun i hi => ?_) ?_ (fun i hi => ?_) q
  · simp [item, isLT, e1, e2, tab_get hi]
  · simp [item, isLT, e1, e2, tab_len]
  · simp only [bindT, unT_tup, bindAll, R_some]
    exact step i hi
theorem Cp_en {n v w r1 : Nat} (f k : Nat → PV) (hn : n < fu) (hn2 : n ≤ 16777216) (e1 : h[r1]? = some (.lst (tab n f)))
    (step : ∀ i < n, E F fu e ((s.set v (some (.int (i : Nat)))).set w (some (f i))) h fun y h2 => y = k i ∧ h2 = h) (q : Qs (tab n k) h) : Cp F fu e (.tp [v, w]) (.lit (.bl true)) s (.dyE r1) h Qs := by
  refine Cp_tabJ k (fun i => .tup [.int (i : Nat), f i]) (fun _ => by simp) hn hn2 (fun i hi => ?_) ?_ (fun i hi => ?_) q
  · simp [item, e1, tab_get hi]
  · simp [item, e1, tab_len]
  · simp only [bindT, unT_tup, bindAll, R_some]
    exact step i hi
/-! bits -/
@[simp] theorem o_band {i j : Int} : Rr (opB .band (.int i) (.int j) h) Q ↔ Q (.int (Builtin.bitAnd i j)) h := R_some
@[simp] theorem o_bor {i j : Int} : Rr (opB .bor (.int i) (.int j) h) Q ↔ Q (.int (Builtin.bitOr i j)) h := R_some
theorem bAnd {i j : Nat} : Builtin.bitAnd (i : Int) (j : Int) = ((i &&& j : Nat) : Int) := by
  simp [Builtin.bitAnd]
theorem bOr {i j : Nat} : Builtin.bitOr (i : Int) (j : Int) = ((i ||| j : Nat) : Int) := by
  have z : ∀ k : Nat, decide ((0 : Int) ≤ Builtin.bitNot (k : Int)) = false := fun k => decide_eq_false (by unfold Builtin.bitNot; omega)
  unfold Builtin.bitOr Builtin.bitAnd
  rw [z, z]
  simp only
  have y : ∀ k : Nat, (Builtin.bitNot (Builtin.bitNot (k : Int))).toNat = k := fun k => by unfold Builtin.bitNot; omega
  rw [y, y]
  unfold Builtin.bitNot
  omega
theorem bAndN {i j : Nat} : Builtin.bitAnd (i : Int) (Builtin.bitNot (j : Int)) = ((i - (i &&& j) : Nat) : Int) := by
  have z : decide ((0 : Int) ≤ Builtin.bitNot (j : Int)) = false := decide_eq_false (by unfold Builtin.bitNot; omega)
  unfold Builtin.bitAnd
  rw [z, decide_eq_true (by omega : (0 : Int) ≤ (i : Int))]
  simp only
  have y : (Builtin.bitNot (Builtin.bitNot (j : Int))).toNat = j := by unfold Builtin.bitNot; omega
  rw [y, Int.toNat_natCast]
  have := Nat.and_le_left (n := i) (m := j)
  omega
theorem o_shl {i j : Nat} (hj : j ≤ 1000000) (hi : i < 2 ^ 64) : Rr (opB .shl (.int (i : Nat)) (.int (j : Nat)) h) Q ↔ Q (.int ((i * 2 ^ j : Nat) : Int)) h := by
  simp only [opB]
  rw [if_pos ⟨by omega, by omega, by simpa using hi⟩]
  simp
theorem o_shr {i j : Nat} : Rr (opB .shr (.int (i : Nat)) (.int (j : Nat)) h) Q ↔ Q (.int ((i >>> j : Nat) : Int)) h := by
  simp only [opB]
  rw [if_pos (by omega), Rr_ok]
  have : ((i : Int) / 2 ^ (j : Int).toNat) = ((i >>> j : Nat) : Int) := by
    rw [Nat.shiftRight_eq_div_pow, Int.toNat_natCast]
    push_cast
    rfl
  rw [this]
/-- the number whose bits below n are f's -/
def mkN (f : Nat → Bool) : Nat → Nat
  | 0 => 0
  | n + 1 => mkN f n + if f n then 2 ^ n else 0
theorem mkN_lt {f : Nat → Bool} : ∀ n, mkN f n < 2 ^ n
  | 0 => by simp [mkN]
  | n + 1 => by
    have := mkN_lt (f := f) n
    rw [mkN, Nat.pow_succ]
    split <;> omega
theorem mkN_bit {f : Nat → Bool} : ∀ n i, (mkN f n).testBit i = (decide (i < n) && f i)
  | 0, i => by simp [mkN]
  | n + 1, i => by
    have l := mkN_lt (f := f) n
    rw [mkN]
    by_cases c : f n = true
    · rw [if_pos c, Nat.add_comm]
      by_cases d : i = n
      · subst d
        rw [Nat.testBit_two_pow_add_eq, mkN_bit]
        simp [c]
      · rcases Nat.lt_or_ge i n with z | z
        · rw [Nat.testBit_two_pow_add_gt z, mkN_bit]
          simp [z, show i < n + 1 by omega]
        · rw [Nat.testBit_lt_two_pow]
          · simp [show ¬ i < n + 1 by omega]
          · have : 2 ^ (n + 1) ≤ 2 ^ i := Nat.pow_le_pow_right (by omega) (by omega)
            rw [Nat.pow_succ] at this
            omega
    · rw [if_neg c, Nat.add_zero, mkN_bit]
      by_cases d : i = n
      · subst d; simp [c]
      · congr 1
        exact decide_eq_decide.mpr (by omega)
theorem eq_mkN {x n : Nat} {f : Nat → Bool} (e : ∀ i, x.testBit i = (decide (i < n) && f i)) : x = mkN f n := Nat.eq_of_testBit_eq fun i => by rw [e, mkN_bit]
end
end EV

set_option Elab.async false
set_option linter.all false
set_option maxRecDepth 100000
set_option maxHeartbeats 4000000
/-! K01b: with other inner ones; plained, mirrored, exchanged. -/
namespace EV
open PySem PySem.Spec
namespace K01
open K28
local macro_rules | `(tactic| decreasing_trivial) => `(tactic| (rw [w_eq true]; rotate_left; focus (decide +kernel)))
local macro_rules | `(tactic| decreasing_trivial) => `(tactic| (rw [w_eq false]; rotate_left; focus (decide +kernel)))
local macro_rules | `(tactic| decreasing_trivial) => `(tactic| (rw [w_in true]; rotate_left; focus (decide +kernel)))
local macro_rules | `(tactic| decreasing_trivial) => `(tactic| (rw [w_in false]; rotate_left; focus (decide +kernel)))
local macro_rules | `(tactic| decreasing_trivial) => `(tactic| (rw [w_nin true]; rotate_left; focus (decide +kernel)))
local macro_rules | `(tactic| decreasing_trivial) => `(tactic| (rw [w_nin false]; rotate_left; focus (decide +kernel)))
section
variable {F : Ca} {fu v r n i : Nat} {e c : CE} {t : Tg} {it : CI} {b : CSs} {J : Itr} {s : Sg} {h h1 : EH} {D : Fl → Sg → EH → Prop} {x : PV}
/-- a loop's turns one by one -/
def FD (F : Ca) (fu : Nat) (t : Tg) (b : CSs) (J : Itr) (n i : Nat) (s : Sg) (h : EH) (D : Fl → Sg → EH → Prop) : Prop :=
  R (forD J (fun x s h => match bindT t x s with | none => none | some s2 => evSs F fu b s2 h) n i s h) fun r => D r.1 r.2.1 r.2.2
theorem for_D (hi : evI F fu it s h = some (J, h1)) (hJ : ∀ xs, J ≠ .st xs) (q : FD F fu t b J fu 0 s h1 D) : S F fu (.frr t it b) s h D := by
  unfold S
  simp only [evS, hi]
  cases J with
  | st xs => exact absurd rfl (hJ xs)
  | _ => exact q
theorem FD_nil (hi : item J i h = some none) (q : D .nx s h) : FD F fu t b J (n + 1) i s h D := by
  unfold FD
  rw [forD, hi]
  exact R_some.mpr q
theorem FD_cons (hi : item J i h = some (some x)) (q : R (bindT t x s) fun s2 => Ss F fu b s2 h fun fl s3 h3 => match fl with
    | .nx => FD F fu t b J n (i + 1) s3 h3 D
    | .ct => FD F fu t b J n (i + 1) s3 h3 D
    | .bk => D .nx s3 h3
    | .rt v => D (.rt v) s3 h3) : FD F fu t b J (n + 1) i s h D := by
  obtain ⟨s2, e1, r, e2, q⟩ := q
  obtain ⟨fl, s3, h3⟩ := r
  unfold FD
  rw [forD, hi]
  simp only [e1, e2]
  cases fl with
  | nx => exact q
  | ct => exact q
  | bk => exact R_some.mpr q
  | rt v => exact R_some.mpr q
end
def rep : Pt → List Pt → Pt
  | .thn _ _, [a, b] => .thn a b
  | .orr _ _, [a, b] => .orr a b
  | .bth _ _, [a, b] => .bth a b
  | .nt _, [a] => .nt a
  | .agn _, [a] => .agn a
  | .few _, [a] => .few a
  | .tak x _, [a] => .tak x a
  | p, _ => p
def csWith : CSs := .cons (.asg (.nm 2) (.bi .list (.cons (.var 0) .nil))) (.cons (.frr (.tp [3, 4]) (.zip false (.kix kvI (.idx (.var 0) (.lit (.int 0)))) (.var 1)) (.cons (.asg (.sub (.var 2) (.var 3)) (.var 4)) .nil)) (.cons (.ret (.bi .tuple (.cons (.var 2) .nil))) .nil))
section
variable {P : List Fn} {fu d ii ip iw : Nat} {h : EH} {Q : PV → EH → Prop} {p : Pt}
theorem zp_item {x : List PV} {ys : List PV} {i r : Nat} (e : h[r]? = some (.lst ys)) : item (.zp false (.tup x) (.ref r)) i h = match x[i]?, ys[i]? with
    | some a, some b => some (some (.tup [a, b]))
    | _, _ => if i ≤ x.length ∧ i ≤ ys.length then some none else none := by
  simp only [item, isLT, e]
  cases x[i]? <;> cases ys[i]? <;> simp
theorem with_go {ks : List Nat} {vs : List PV} {xs : List PV} {r l : Nat} {D : Fl → Sg → EH → Prop} {s0 s1 : Option PV} (hlen : ks.length = vs.length) (hk : ∀ k ∈ ks, k < xs.length) (hne : l ≠ r) :
    ∀ (j : Nat) (n : Nat) (m3 m4 : Option PV) (g : EH) (ys : List PV), j ≤ ks.length → ks.length - j < n → g[r]? = some (.lst vs) → g[l]? = some (.lst ys) → ys.length = xs.length →
      (∀ m3 m4 g2, g2[l]? = some (.lst ((List.zip (ks.drop j) (vs.drop j)).foldl (fun a kv => a.set kv.1 kv.2) ys)) → (∀ m, m ≠ l → g2[m]? = g[m]?) → g2.length = g.length → D .nx [s0, s1, some (.ref l), m3, m4] g2) →
      FD (run P fu d) fu (.tp [3, 4]) (.cons (.asg (.sub (.var 2) (.var 3)) (.var 4)) .nil) (.zp false (.tup (ks.map fun (k : Nat) => PV.int k)) (.ref r)) n j [s0, s1, some (.ref l), m3, m4] g D := by
  intro j n
  induction n generalizing j with
  | zero => intro m3 m4 g ys hj hn; omega
  | succ n ih =>
    intro m3 m4 g ys hj hn e el hy q
    by_cases c : j < ks.length
    · have hv : j < vs.length := by omega
      refine FD_cons (x := .tup [.int (ks[j] : Nat), vs[j]]) ?_ ?_
      · rw [zp_item e]
        simp [c, hv]
      · simp [bindT, bindAll]
        rw [EV.x_setL (k := ks[j]) el rfl (by rw [hy]; exact hk _ (List.getElem_mem c))]
        simp only [R_some]
        refine ih (j + 1) _ _ _ (ys.set ks[j] vs[j]) (by omega) (by omega) (by rw [List.getElem?_set_ne hne]; exact e) (by rw [List.getElem?_set_self (get_lt el)]) (by rw [List.length_set]; exact hy) fun m3 m4 g2 e2 k2 l2 => ?_
        refine q m3 m4 g2 ?_ (fun m hm => by rw [k2 m hm, List.getElem?_set_ne (Ne.symm hm)]) (by rw [l2, List.length_set])
        rw [e2, List.drop_eq_getElem_cons c, List.drop_eq_getElem_cons hv]
        rfl
    · have : j = ks.length := by omega
      subst this
      refine FD_nil ?_ (q _ _ g ?_ (fun _ _ => rfl) rfl)
      · rw [zp_item e]
        simp [hlen]
      · rw [el]
        simp
def wix : Pt → List Nat
  | .thn _ _ => [1, 2]
  | .orr _ _ => [1, 2]
  | .bth _ _ => [1, 2]
  | .nt _ => [1]
  | .agn _ => [1]
  | .few _ => [1]
  | .tak _ _ => [2]
  | _ => []
def encL : Pt → List PV
  | .non => [.str "none"]
  | .emp => [.str "empty"]
  | .sgn s => [.str "sign", .int (s : Nat)]
  | .thn a b => [.str "then", enc a, enc b]
  | .orr a b => [.str "or", enc a, enc b]
  | .bth a b => [.str "both", enc a, enc b]
  | .nt a => [.str "not", enc a]
  | .agn a => [.str "again", enc a]
  | .few a => [.str "few", enc a]
  | .tak x a => [.str "take", .str x, enc a]
theorem enc_L (p : Pt) : enc p = .tup (encL p) := by cases p <;> rfl
def word : Pt → Str
  | .non => "none"
  | .emp => "empty"
  | .sgn s => "sign"
  | .thn a b => "then"
  | .orr a b => "or"
  | .bth a b => "both"
  | .nt a => "not"
  | .agn a => "again"
  | .few a => "few"
  | .tak x a => "take"
theorem w_ix : opIx (enc p) (.int 0) h = some (.str (word p)) := by cases p <;> rfl
theorem kv_w : kvI.lookup (word p) = some (.tup ((wix p).map fun (k : Nat) => PV.int k)) := by
  cases p <;> simp [word, wix, lk_none, lk_empty, lk_sign, lk_then, lk_or, lk_both, lk_not, lk_again, lk_few, lk_take]
theorem with_ok {r : Nat} {vs : List Pt} (hW : P[iw]? = some ⟨2, 5, csWith⟩) (e : h[r]? = some (.lst (vs.map enc))) (hl : vs.length = (inn p).length) (hfu : 100 < fu)
    (q : ∀ g, Kp [] h.length h g → Q (enc (rep p vs)) g) : Rr (run P fu (d + 1) iw [enc p, .ref r] h) Q := by
  refine run_R hW rfl ?_
  simp [csWith]
  have hb : ∀ Q', Rr (opBi .list [enc p] h) Q' ↔ Q' (.ref h.length) (h ++ [.lst (encL p)]) := fun Q' => by rw [enc_L]; simp only [opBi, isLT, Rr_new]
  rw [hb]
  have hlw : (wix p).length = (vs.map enc).length := by rw [List.length_map, hl]; cases p <;> rfl
  have er : (h ++ [EO.lst (encL p)])[r]? = some (.lst (vs.map enc)) := by rw [List.getElem?_append_left (get_lt e)]; exact e
  refine for_D (J := .zp false (.tup ((wix p).map fun (k : Nat) => PV.int k)) (.ref r)) (h1 := h ++ [.lst (encL p)]) ?_ (fun _ => by simp) ?_
  · have w := w_ix (p := p) (h := h ++ [.lst (encL p)])
    simp [evI, ev, w, kv_w, isLT, er]
  · refine with_go (xs := encL p) hlw (fun k hk => by cases p <;> simp [wix] at hk <;> simp [encL] <;> omega) (by have := get_lt e; omega) 0 fu _ _ _ (encL p) (Nat.zero_le _) (by have := inn_len p; rw [hlw, List.length_map]; omega) er get_new rfl fun m3 m4 g2 e2 k2 l2 => ?_
    simp
    rw [b_tupR e2]
    simp only [retQ]
    have : PV.tup (((wix p).drop 0).zip ((vs.map enc).drop 0) |>.foldl (fun a kv => a.set kv.1 kv.2) (encL p)) = enc (rep p vs) := by
      cases p <;> simp [inn] at hl
      case non => subst hl; rfl
      case emp => subst hl; rfl
      case sgn => subst hl; rfl
      case thn => match vs, hl with | [a, b], _ => rfl
      case orr => match vs, hl with | [a, b], _ => rfl
      case bth => match vs, hl with | [a, b], _ => rfl
      case nt => match vs, hl with | [a], _ => rfl
      case agn => match vs, hl with | [a], _ => rfl
      case few => match vs, hl with | [a], _ => rfl
      case tak => match vs, hl with | [a], _ => rfl
    rw [this]
    refine q g2 ⟨Nat.le_refl _, by rw [l2]; simp, fun m hm _ => ?_⟩
    rw [k2 m (by omega), List.getElem?_append_left hm]
end
end K01
end EV

set_option Elab.async false
set_option linter.all false
set_option maxRecDepth 100000
set_option maxHeartbeats 4000000
/-! K01c: plained, mirrored, exchanged; the law's inner ones, parts. -/
namespace EV
open PySem PySem.Spec
namespace K01
open K28
local macro_rules | `(tactic| decreasing_trivial) => `(tactic| (rw [w_eq true]; rotate_left; focus (decide +kernel)))
local macro_rules | `(tactic| decreasing_trivial) => `(tactic| (rw [w_eq false]; rotate_left; focus (decide +kernel)))
local macro_rules | `(tactic| decreasing_trivial) => `(tactic| (rw [w_in true]; rotate_left; focus (decide +kernel)))
local macro_rules | `(tactic| decreasing_trivial) => `(tactic| (rw [w_in false]; rotate_left; focus (decide +kernel)))
local macro_rules | `(tactic| decreasing_trivial) => `(tactic| (rw [w_nin true]; rotate_left; focus (decide +kernel)))
local macro_rules | `(tactic| decreasing_trivial) => `(tactic| (rw [w_nin false]; rotate_left; focus (decide +kernel)))
def isTk : Pt → Bool | .tak _ _ => true | _ => false
def isFw : Pt → Bool | .few _ => true | _ => false
def isTh : Pt → Bool | .thn _ _ => true | _ => false
def isSg : Pt → Bool | .sgn _ => true | _ => false
section
variable {h : EH} {p : Pt} {Qb : Bool → Prop}
theorem q_tk : R (opC .eq (.str (word p)) (.str "take") h) Qb ↔ Qb (isTk p) := by cases p <;> simp only [word, isTk] <;> decreasing_trivial
theorem q_fw : R (opC .eq (.str (word p)) (.str "few") h) Qb ↔ Qb (isFw p) := by cases p <;> simp only [word, isFw] <;> decreasing_trivial
theorem q_th : R (opC .eq (.str (word p)) (.str "then") h) Qb ↔ Qb (isTh p) := by cases p <;> simp only [word, isTh] <;> decreasing_trivial
theorem q_sg : R (opC .eq (.str (word p)) (.str "sign") h) Qb ↔ Qb (isSg p) := by cases p <;> simp only [word, isSg] <;> decreasing_trivial
end
def pl : Pt → Pt
  | .thn a b => .thn (pl a) (pl b)
  | .orr a b => .orr (pl a) (pl b)
  | .bth a b => .bth (pl a) (pl b)
  | .nt a => .nt (pl a)
  | .agn a => .agn (pl a)
  | .few a => .agn (pl a)
  | .tak _ a => pl a
  | p => p
def mr : Pt → Pt
  | .thn a b => .thn (mr b) (mr a)
  | .orr a b => .orr (mr a) (mr b)
  | .bth a b => .bth (mr a) (mr b)
  | .nt a => .nt (mr a)
  | .agn a => .agn (mr a)
  | .few a => .few (mr a)
  | .tak x a => .tak x (mr a)
  | p => p
def ex (o : List Nat) : Pt → Pt
  | .sgn s => .sgn (o.getD s 0)
  | .thn a b => .thn (ex o a) (ex o b)
  | .orr a b => .orr (ex o a) (ex o b)
  | .bth a b => .bth (ex o a) (ex o b)
  | .nt a => .nt (ex o a)
  | .agn a => .agn (ex o a)
  | .few a => .few (ex o a)
  | .tak x a => .tak x (ex o a)
  | p => p
def sgb (m : Nat) : Pt → Bool
  | .sgn s => decide (s < m)
  | .thn a b => sgb m a && sgb m b
  | .orr a b => sgb m a && sgb m b
  | .bth a b => sgb m a && sgb m b
  | .nt a => sgb m a
  | .agn a => sgb m a
  | .few a => sgb m a
  | .tak _ a => sgb m a
  | _ => true
theorem sgb_inn {m : Nat} {p c : Pt} (h : sgb m p = true) (hc : c ∈ inn p) : sgb m c = true := by
  cases p <;> simp [inn] at hc <;> simp [sgb] at h <;> (first | (rcases hc with rfl | rfl <;> simp_all) | (subst hc; exact h))
section
variable {P : List Fn} {fu d ii ip iw ix : Nat} {h : EH} {Q : PV → EH → Prop} {p : Pt}
theorem inmap_ok {F : Ca} {val : Pt → PV} {e it : CE} {v : Nat} {s : Sg} (hin : ∀ Q, (∀ r g, g[r]? = some (.lst ((inn p).map enc)) → Kp [] h.length h g → Q (.ref r) g) → E F fu it s h Q)
    (IH : ∀ c ∈ inn p, ∀ (g : EH) (Q : PV → EH → Prop), Kp [] h.length h g → (∀ g2, Kp [] g.length g g2 → Q (val c) g2) → E F fu e ((wipeE s [v]).set v (some (enc c))) g Q) (hfu : 100 < fu)
    (q : ∀ r g, h.length ≤ r → g[r]? = some (.lst ((inn p).map val)) → Kp [] h.length h g → Q (.ref r) g) : E F fu (.comp e (.nm v) (.val it) (.lit (.bl true)) [v]) s h Q := by
  have hl := inn_len p
  rw [E_comp, Ei_val]
  refine hin _ fun r0 g0 e0 k0 => ?_
  simp only [itrOf, e0]
  have l0 := get_lt e0
  refine Cp_genJ (ys := (inn p).map enc) (r := r0) [] (fun i x g => ∃ c, (inn p)[i]? = some c ∧ x = val c) (fun g => g[r0]? = some (.lst ((inn p).map enc)) ∧ Kp [] h.length h g ∧ g0.length ≤ g.length) (fun i x g g' z _ => z) (by rw [List.length_map]; omega) (by rw [List.length_map]; omega) ⟨e0, k0, Nat.le_refl _⟩ (fun g z => z.1) ?_ ?_
  · intro i y g hy ⟨e, kg, lg⟩
    rw [List.getElem?_map] at hy
    obtain ⟨c, hc, rfl⟩ := Option.map_eq_some_iff.mp hy
    exact IH c (List.mem_of_getElem? hc) g _ kg fun g2 k2 => ⟨⟨c, hc, rfl⟩, k2, k2.get e (get_lt e) (by simp), kg.trans (k2.less kg.2.1), by have := k2.2.1; omega⟩
  · intro xs g hlen hx ⟨e, kg, lg⟩
    have : xs = (inn p).map val := by
      refine List.ext_getElem? fun i => ?_
      cases hi : xs[i]? with
      | none =>
        have := List.getElem?_eq_none_iff.mp hi
        rw [List.getElem?_eq_none]
        simp at hlen ⊢
        omega
      | some x =>
        obtain ⟨c, hc, rfl⟩ := hx i x hi
        simp [hc]
    subst this
    exact q _ _ kg.2.1 get_new (kg.trans (Kp.new kg.2.1))
def inE (ii : Nat) : CE := .call ii (.cons (.var 0) .nil)
theorem in_E {s : Sg} (hI : P[ii]? = some ⟨1, 2, csInner⟩) (hs : s[0]? = some (some (enc p))) (Q : PV → EH → Prop) (q : ∀ r g, h.length ≤ r → g[r]? = some (.lst ((inn p).map enc)) → Kp [] h.length h g → Q (.ref r) g) : E (run P fu (d + 1)) fu (inE ii) s h Q := by
  rw [inE, E_call, Es_cons, E_var]
  refine ⟨_, hs, ?_⟩
  rw [Es_nil]
  exact inner_ok hI (q _ _ (Nat.le_refl _) get_new (Kp.new (Nat.le_refl _)))
def csPld (ii ip iw : Nat) : CSs := .cons (.asg (.nm 1) (.comp (.call ip (.cons (.var 2) .nil)) (.nm 2) (.val (inE ii)) (.lit (.bl true)) [2])) (.cons (.ifs (.cmp .eq (.idx (.var 0) (.lit (.int 0))) (.lit (.str "take"))) (.cons (.ret (.idx (.var 1) (.lit (.int 0)))) .nil) .nil) (.cons (.ret (.ife (.cmp .eq (.idx (.var 0) (.lit (.int 0))) (.lit (.str "few"))) (.tup (.cons (.lit (.str "again")) (.cons (.idx (.var 1) (.lit (.int 0))) .nil))) (.call iw (.cons (.var 0) (.cons (.var 1) .nil))))) .nil))
theorem plained_ok (hI : P[ii]? = some ⟨1, 2, csInner⟩) (hW : P[iw]? = some ⟨2, 5, csWith⟩) (hP : P[ip]? = some ⟨1, 3, csPld ii ip iw⟩) (hfu : 100 < fu) : ∀ k (p : Pt) (h : EH) (d : Nat) (Q : PV → EH → Prop), dep p ≤ k → k + 1 ≤ d →
    (∀ g, Kp [] h.length h g → Q (enc (pl p)) g) → Rr (run P fu d ip [enc p] h) Q := by
  intro k
  induction k with
  | zero => intro p h d Q hp; have := dep_pos p; omega
  | succ k ih =>
    intro p h d Q hp hd q
    obtain ⟨d, rfl⟩ : ∃ d', d = d' + 2 := ⟨d - 2, by omega⟩
    refine run_R hP rfl ?_
    rw [csPld, Ss_cons, S_nm]
    refine inmap_ok (val := fun c => enc (pl c)) (fun Q q => in_E (d := d) hI rfl Q fun r g _ => q r g) (fun c hc g Q kg q2 => ?_) hfu fun r g hr e kg => ?_
    · simp [wipeE]
      exact ih c g (d + 1) Q (by have := dep_inn hc; omega) (by omega) q2
    · simp [w_ix, q_tk]
      have gen : ∀ (p : Pt) (vs : List Pt), g[r]? = some (.lst (vs.map enc)) → vs.length = (inn p).length → rep p vs = pl p → (∀ g, Kp [] h.length h g → Q (enc (pl p)) g) → Rr (run P fu (d + 1) iw [enc p, .ref r] g) fun v h1 => retQ Q (.rt v) [some (enc p), some (.ref r), none] h1 := fun p vs e hl e2 q => by
        refine with_ok (d := d) hW e hl hfu fun g2 k2 => ?_
        rw [e2]
        exact q _ (kg.trans (k2.less kg.2.1))
      cases p
      case tak x a =>
        simp [isTk, x_lst e, inn, seqAt, retQ]
        exact q _ kg
      case few a =>
        simp [isTk, q_fw, isFw, x_lst e, inn, seqAt, retQ]
        exact q _ kg
      all_goals
        simp [isTk, q_fw, isFw]
        refine gen _ ((inn _).map pl) (by rw [List.map_map]; exact e) (by rw [List.length_map]) rfl q
def csMir (ii ip iw : Nat) : CSs := .cons (.asg (.nm 1) (.comp (.call ip (.cons (.var 2) .nil)) (.nm 2) (.val (inE ii)) (.lit (.bl true)) [2])) (.cons (.ret (.call iw (.cons (.var 0) (.cons (.ife (.cmp .eq (.idx (.var 0) (.lit (.int 0))) (.lit (.str "then"))) (.rev (.var 1)) (.var 1)) .nil)))) .nil)
theorem mirrored_ok (hI : P[ii]? = some ⟨1, 2, csInner⟩) (hW : P[iw]? = some ⟨2, 5, csWith⟩) (hP : P[ip]? = some ⟨1, 3, csMir ii ip iw⟩) (hfu : 100 < fu) : ∀ k (p : Pt) (h : EH) (d : Nat) (Q : PV → EH → Prop), dep p ≤ k → k + 1 ≤ d →
    (∀ g, Kp [] h.length h g → Q (enc (mr p)) g) → Rr (run P fu d ip [enc p] h) Q := by
  intro k
  induction k with
  | zero => intro p h d Q hp; have := dep_pos p; omega
  | succ k ih =>
    intro p h d Q hp hd q
    obtain ⟨d, rfl⟩ : ∃ d', d = d' + 2 := ⟨d - 2, by omega⟩
    refine run_R hP rfl ?_
    rw [csMir, Ss_cons, S_nm]
    refine inmap_ok (val := fun c => enc (mr c)) (fun Q q => in_E (d := d) hI rfl Q fun r g _ => q r g) (fun c hc g Q kg q2 => ?_) hfu fun r g hr e kg => ?_
    · simp [wipeE]
      exact ih c g (d + 1) Q (by have := dep_inn hc; omega) (by omega) q2
    · simp [w_ix, q_th]
      have gen : ∀ (p : Pt) (vs : List Pt) (r : Nat) (g : EH), Kp [] h.length h g → g[r]? = some (.lst (vs.map enc)) → vs.length = (inn p).length → rep p vs = mr p → (∀ g, Kp [] h.length h g → Q (enc (mr p)) g) → ∀ sx, Rr (run P fu (d + 1) iw [enc p, .ref r] g) fun v h1 => retQ Q (.rt v) sx h1 := fun p vs r g kg e hl e2 q sx => by
        refine with_ok (d := d) hW e hl hfu fun g2 k2 => ?_
        rw [e2]
        exact q _ (kg.trans (k2.less kg.2.1))
      cases p
      case thn a b =>
        simp [isTh, opRev, isL, e, inn]
        exact gen _ [mr b, mr a] _ _ (kg.trans (Kp.new kg.2.1)) get_new rfl rfl q _
      all_goals
        simp [isTh]
        refine gen _ ((inn _).map mr) _ _ kg (by rw [List.map_map]; exact e) (by rw [List.length_map]) rfl q _
def csExc1 (ii ip iw : Nat) : CSs := (.cons (.ret (.call iw (.cons (.var 0) (.cons (.comp (.call ip (.cons (.var 2) (.cons (.var 1) .nil))) (.nm 2) (.val (inE ii)) (.lit (.bl true)) [2]) .nil)))) .nil)
def csExc (ii ip iw : Nat) : CSs := .cons (.ifs (.cmp .eq (.idx (.var 0) (.lit (.int 0))) (.lit (.str "sign"))) (.cons (.ret (.tup (.cons (.lit (.str "sign")) (.cons (.idx (.var 1) (.idx (.var 0) (.lit (.int 1)))) .nil)))) .nil) .nil) (csExc1 ii ip iw)
theorem exchanged_ok {o : List Nat} (hI : P[ii]? = some ⟨1, 2, csInner⟩) (hW : P[iw]? = some ⟨2, 5, csWith⟩) (hP : P[ip]? = some ⟨2, 3, csExc ii ip iw⟩) (hfu : 100 < fu) : ∀ k (p : Pt) (h : EH) (d : Nat) (Q : PV → EH → Prop), dep p ≤ k → k + 1 ≤ d → sgb o.length p = true →
    (∀ g, Kp [] h.length h g → Q (enc (ex o p)) g) → Rr (run P fu d ip [enc p, encH o] h) Q := by
  intro k
  induction k with
  | zero => intro p h d Q hp; have := dep_pos p; omega
  | succ k ih =>
    intro p h d Q hp hd hs q
    obtain ⟨d, rfl⟩ : ∃ d', d = d' + 2 := ⟨d - 2, by omega⟩
    refine run_R hP rfl ?_
    rw [csExc, Ss_cons]
    simp [w_ix, q_sg]
    have gen : ∀ (p : Pt), dep p ≤ k + 1 → sgb o.length p = true → rep p ((inn p).map (ex o)) = ex o p → (∀ g, Kp [] h.length h g → Q (enc (ex o p)) g) →
        Ss (run P fu (d + 1)) fu (csExc1 ii ip iw) [some (enc p), some (encH o), none] h (retQ Q) := fun p hp hs e2 q => by
      rw [csExc1, Ss_cons, S_ret, E_call, Es_cons, E_var]
      refine ⟨_, rfl, ?_⟩
      rw [Es_cons]
      refine inmap_ok (val := fun c => enc (ex o c)) (fun Q q => in_E (d := d) hI rfl Q fun r g _ => q r g) (fun c hc g Q kg q2 => ?_) hfu fun r g hr e kg => ?_
      · simp [wipeE]
        exact ih c g (d + 1) Q (by have := dep_inn hc; omega) (by omega) (sgb_inn hs hc) q2
      · rw [Es_nil]
        refine with_ok (d := d) (vs := (inn p).map (ex o)) hW (by rw [List.map_map]; exact e) (by rw [List.length_map]) hfu fun g2 k2 => ?_
        rw [e2]
        exact q _ (kg.trans (k2.less kg.2.1))
    cases p
    case sgn s =>
      simp [isSg, enc, seqAt]
      have hs' : s < o.length := by simpa [sgb] using hs
      rw [K10.h_ix hs']
      simp [retQ]
      exact q _ (Kp.refl (Nat.le_refl _))
    all_goals
      simp only [isSg, Bool.false_eq_true, if_false, Ss_nil, nxt_nx]
      exact gen _ hp hs rfl q
end
end K01
end EV

set_option Elab.async false
set_option linter.all false
set_option maxRecDepth 100000
set_option maxHeartbeats 4000000
/-! K01d: the law's own: inner ones, parts, has_empty, changed. -/
namespace EV
open PySem PySem.Spec
namespace K01
open K28
local macro_rules | `(tactic| decreasing_trivial) => `(tactic| (rw [w_eq true]; rotate_left; focus (decide +kernel)))
local macro_rules | `(tactic| decreasing_trivial) => `(tactic| (rw [w_eq false]; rotate_left; focus (decide +kernel)))
local macro_rules | `(tactic| decreasing_trivial) => `(tactic| (rw [w_in true]; rotate_left; focus (decide +kernel)))
local macro_rules | `(tactic| decreasing_trivial) => `(tactic| (rw [w_in false]; rotate_left; focus (decide +kernel)))
local macro_rules | `(tactic| decreasing_trivial) => `(tactic| (rw [w_nin true]; rotate_left; focus (decide +kernel)))
local macro_rules | `(tactic| decreasing_trivial) => `(tactic| (rw [w_nin false]; rotate_left; focus (decide +kernel)))
section
variable {h : EH} {Qb : Bool → Prop} {r : Nat} {bs : List Bool} {x : Bool}
theorem bls_D {k : Nat} : ∀ {bs : List Bool}, mapO (toD h (k + 1)) (bs.map PV.bl) = some (bs.map PyData.bool)
  | [] => rfl
  | b :: bs => by rw [List.map_cons, mapO, bls_D]; rfl
theorem bls_lay : ∀ {bs : List Bool}, PyData.canLayAll0 (bs.map .bool) = true ∧ PyData.depthAll (bs.map .bool) = 0
  | [] => ⟨rfl, rfl⟩
  | b :: bs => by
    obtain ⟨a, c⟩ := bls_lay (bs := bs)
    exact ⟨by rw [List.map_cons, PyData.canLayAll0, a]; rfl, by rw [List.map_cons, PyData.depthAll, c]; rfl⟩
theorem bls_any : ∀ {bs : List Bool}, ((bs.map PyData.bool).any fun z => PyData.eqv z (.bool x)) = decide (x ∈ bs)
  | [] => by simp
  | b :: bs => by
    rw [List.map_cons, List.any_cons, bls_any]
    cases b <;> cases x <;> simp [PyData.eqv]
theorem bls_in : inD h (.bl x) (bs.map PV.bl) = some (decide (x ∈ bs)) := by
  unfold inD
  have e1 : toD h DF (.bl x) = some (.bool x) := rfl
  have e2 : mapO (toD h DF) (bs.map PV.bl) = some (bs.map PyData.bool) := bls_D
  have s1 : SeqAt.shaped (.bool x) = true := rfl
  have s2 : SeqAt.shaped (.list (bs.map PyData.bool)) = true := by
    unfold SeqAt.shaped
    simp [PyData.canLay0, PyData.depth, bls_lay]
  simp only [e1, e2, s1, s2, and_self, if_true, bls_any]
theorem c_inBl (e : h[r]? = some (.lst (bs.map PV.bl))) : R (opC .isIn (.bl x) (.ref r) h) Qb ↔ Qb (decide (x ∈ bs)) := by
  simp only [opC, isIn, e, bls_in, R_some]
theorem c_ninBl (e : h[r]? = some (.lst (bs.map PV.bl))) : R (opC .notIn (.bl x) (.ref r) h) Qb ↔ Qb (!decide (x ∈ bs)) := by
  simp only [opC, isIn, e, bls_in, Option.map_some, R_some]
end
theorem o_addLL {xs ys : List PV} {a b : Nat} {h : EH} {Q : PV → EH → Prop} (e1 : h[a]? = some (.lst xs)) (e2 : h[b]? = some (.lst ys)) (hl : xs.length + ys.length ≤ 16777216) : Rr (opB .add (.ref a) (.ref b) h) Q ↔ Q (.ref h.length) (h ++ [.lst (xs ++ ys)]) := by
  simp only [opB, e1, e2, Rr_newL]
  rw [List.length_append, sz]
  exact ⟨fun z => z.2, fun z => ⟨by omega, z⟩⟩
def csLIn : CSs := .cons (.ret (.comp (.var 1) (.nm 1) (.val (.slc true false (.var 0) (.lit (.int 1)) (.lit .non))) (.isI .tup (.var 1)) [1])) .nil
section
variable {P : List Fn} {fu d ii ip iw il : Nat} {h : EH} {Q : PV → EH → Prop} {p : Pt}
theorem linner_ok (hI : P[ii]? = some ⟨1, 2, csLIn⟩) (q : Q (.ref h.length) (h ++ [.lst ((inn p).map enc)])) : Rr (run P fu (d + 1) ii [enc p] h) Q := by
  refine run_R hI rfl ?_
  cases p <;> simp [csLIn, enc, inn, partOf, opSl, K59.cut1, itrOf, Cp_S, CpS_cons, CpS_nil, wipeE, bindT, retQ, t_enc] <;> first | exact q | skip
theorem linE {s : Sg} (hI : P[ii]? = some ⟨1, 2, csLIn⟩) (hs : s[0]? = some (some (enc p))) (Q : PV → EH → Prop) (q : ∀ r g, h.length ≤ r → g[r]? = some (.lst ((inn p).map enc)) → Kp [] h.length h g → Q (.ref r) g) : E (run P fu (d + 1)) fu (inE ii) s h Q := by
  rw [inE, E_call, Es_cons, E_var]
  refine ⟨_, hs, ?_⟩
  rw [Es_nil]
  exact linner_ok hI (q _ _ (Nat.le_refl _) get_new (Kp.new (Nat.le_refl _)))
def csLPa (ii ip : Nat) : CSs := .cons (.asg (.nm 1) (.lst (.cons (.var 0) .nil))) (.cons (.frr (.nm 2) (.val (inE ii)) (.cons (.asg (.nm 1) (.bin .add (.var 1) (.call ip (.cons (.var 2) .nil)))) .nil)) (.cons (.ret (.var 1)) .nil))
theorem lparts_ok (hI : P[ii]? = some ⟨1, 2, csLIn⟩) (hP : P[ip]? = some ⟨1, 3, csLPa ii ip⟩) (hfu : 100 < fu) : ∀ k (p : Pt) (h : EH) (d : Nat) (Q : PV → EH → Prop), dep p ≤ k → k + 1 ≤ d → size p ≤ 10000 →
    (∀ r g, h.length ≤ r → g[r]? = some (.lst ((parts p).map enc)) → Kp [] h.length h g → Q (.ref r) g) → Rr (run P fu d ip [enc p] h) Q := by
  intro k
  induction k with
  | zero => intro p h d Q hp; have := dep_pos p; omega
  | succ k ih =>
    intro p h d Q hp hd hz q
    obtain ⟨d, rfl⟩ : ∃ d', d = d' + 2 := ⟨d - 2, by omega⟩
    refine run_R hP rfl ?_
    simp [csLPa]
    have hl := inn_len p
    obtain ⟨I, hJ⟩ : ∃ I : Nat → Nat → Sg → EH → Prop, ∀ r j s g, I r j s g ↔ (∃ (m2 : Option PV) (r1 : Nat), s = [some (enc p), some (.ref r1), m2] ∧ g[r]? = some (.lst ((inn p).map enc)) ∧ j ≤ (inn p).length ∧ h.length ≤ r ∧ h.length ≤ r1 ∧
      g[r1]? = some (.lst ((p :: (((inn p).take j).map parts).flatten).map enc)) ∧ Kp [] h.length h g) := ⟨_, fun _ _ _ _ => Iff.rfl⟩
    refine for_L (ys := (inn p).map enc) I ?_ (by rw [List.length_map]; omega) ?_ ?_ ?_
    · rw [Ei_val]
      refine linE hI rfl _ fun r g hr e kg => ?_
      simp only [itrOf, e]
      have k0 : Kp [] h.length h (h ++ [EO.lst [enc p]]) := Kp.new (Nat.le_refl _)
      refine ⟨r, rfl, (hJ _ _ _ _).mpr ⟨none, h.length, rfl, e, Nat.zero_le _, by simp at hr; omega, Nat.le_refl _, ?_, k0.trans (kg.less (by simp))⟩⟩
      exact kg.get (by simp) (by simp) (by simp)
    · intro r j s g hj
      obtain ⟨m2, r1, rfl, e, l, _⟩ := (hJ _ _ _ _).mp hj
      exact ⟨e, by rw [List.length_map]; exact l⟩
    · intro r j y s g hy hj
      obtain ⟨m2, r1, rfl, e, l, l2, l3, e2, kg⟩ := (hJ _ _ _ _).mp hj
      rw [List.getElem?_map] at hy
      obtain ⟨c, hc, rfl⟩ := Option.map_eq_some_iff.mp hy
      have hm := List.mem_of_getElem? hc
      have hdc := dep_inn hm
      have hjl := (List.getElem?_eq_some_iff.mp hc).1
      have hzc : size c < size p ∧ (((inn p).take j).map parts).flatten.length + size c + 1 ≤ size p := by
        have e3 := congrArg List.length (parts_eq p)
        have e4 : (inn p) = (inn p).take j ++ c :: (inn p).drop (j + 1) := by
          refine (List.take_append_drop j (inn p)).symm.trans ?_
          rw [List.drop_eq_getElem_cons hjl, (List.getElem?_eq_some_iff.mp hc).2]
        rw [e4] at e3
        simp only [parts_len, List.map_append, List.map_cons, List.flatten_append, List.flatten_cons, List.length_append, List.length_cons] at e3
        omega
      simp
      refine ih c g (d + 1) _ (by omega) (by omega) (by omega) fun r2 g2 hr2 e3 k2 => ?_
      have kk := k2.less kg.2.1
      have e4 := k2.get e2 (get_lt e2) (by simp)
      have e5 := k2.get e (get_lt e) (by simp)
      rw [o_addLL e4 e3 (by rw [List.length_map, List.length_cons, List.length_map, parts_len]; omega)]
      have kgg := kg.trans kk
      refine (hJ _ _ _ _).mpr ⟨_, g2.length, rfl, by rw [List.getElem?_append_left (get_lt e5)]; exact e5, hjl, l2, kgg.2.1, ?_, kgg.trans (Kp.new kgg.2.1)⟩
      rw [get_new, List.take_add_one, hc]
      simp
    · intro r s g hj
      obtain ⟨m2, r1, rfl, e, l, l2, l3, e2, kg⟩ := (hJ _ _ _ _).mp hj
      simp
      refine q _ _ l3 ?_ kg
      rw [e2, parts_eq p]
      simp
def csLHa5 : CSs := .cons (.ret (.ife (.cmp .eq (.var 1) (.lit (.str "or"))) (.cmp .isIn (.lit (.bl true)) (.var 3)) (.cmp .notIn (.lit (.bl false)) (.var 3)))) .nil
def csLHa4 : CSs := .cons (.ifs (.cmp .eq (.var 1) (.lit (.str "not"))) (.cons (.ret (.nt (.idx (.var 3) (.lit (.int 0))))) .nil) .nil) csLHa5
def csLHa3 (ih : Nat) : CSs := .cons (.asg (.nm 3) (.comp (.call ih (.cons (.var 4) .nil)) (.nm 4) (.val (.var 2)) (.lit (.bl true)) [4])) csLHa4
def csLHa2 (ih : Nat) : CSs := .cons (.ifs (.cmp .isIn (.var 1) (.tup (.cons (.lit (.str "none")) (.cons (.lit (.str "sign")) .nil)))) (.cons (.ret (.lit (.bl false))) .nil) .nil) (csLHa3 ih)
def csLHa1 (ih : Nat) : CSs := .cons (.ifs (.cmp .isIn (.var 1) (.tup (.cons (.lit (.str "empty")) (.cons (.lit (.str "again")) (.cons (.lit (.str "few")) .nil))))) (.cons (.ret (.lit (.bl true))) .nil) .nil) (csLHa2 ih)
def csLHa (ih ii : Nat) : CSs := .cons (.par [1, 2] (.cons (.idx (.var 0) (.lit (.int 0))) (.cons (inE ii) .nil))) (csLHa1 ih)
theorem lhas_ok {ih : Nat} (hI : P[ii]? = some ⟨1, 2, csLIn⟩) (hH : P[ih]? = some ⟨1, 5, csLHa ih ii⟩) (hfu : 100 < fu) : ∀ k (p : Pt) (h : EH) (d : Nat) (Q : PV → EH → Prop), dep p ≤ k → k + 1 ≤ d →
    (∀ g, Kp [] h.length h g → Q (.bl (hasE p)) g) → Rr (run P fu d ih [enc p] h) Q := by
  intro k
  induction k with
  | zero => intro p h d Q hp; have := dep_pos p; omega
  | succ k ihk =>
    intro p h d Q hp hd q
    obtain ⟨d, rfl⟩ : ∃ d', d = d' + 2 := ⟨d - 2, by omega⟩
    refine run_R hH rfl ?_
    rw [csLHa, Ss_cons, S_par, Es_cons]
    simp [w_ix]
    refine linE hI rfl _ fun r0 g0 hr0 e0 k0 => ?_
    simp [bindAll]
    have told : ∀ (D : Fl → Sg → EH → Prop), (∀ r g m4, g[r]? = some (.lst (((inn p).map hasE).map PV.bl)) → Kp [] h.length h g → Ss (run P fu (d + 1)) fu csLHa4 [some (enc p), some (.str (word p)), some (.ref r0), some (.ref r), m4] g D) →
        Ss (run P fu (d + 1)) fu (csLHa3 ih) [some (enc p), some (.str (word p)), some (.ref r0), none, none] g0 D := fun D q => by
      rw [csLHa3, Ss_cons, S_nm]
      refine inmap_ok (p := p) (val := fun c => .bl (hasE c)) (fun Q q => ?_) (fun c hc g Q kg q2 => ?_) hfu fun r g hr e kg => ?_
      · simp
        exact q r0 g0 e0 (Kp.refl (Nat.le_refl _))
      · simp [wipeE]
        exact ihk c g (d + 1) Q (by have := dep_inn hc; omega) (by omega) q2
      · simp
        exact q r g none (by rw [List.map_map]; exact e) (k0.trans (kg.less k0.2.1))
    rw [csLHa1, Ss_cons, S_ifs]
    have fin : ∀ (b : Bool) (r : Nat) (g : EH) (m4 : Option PV), b = hasE p → Kp [] h.length h g → Q (.bl b) g := fun b r g m4 e kg => by rw [e]; exact q g kg
    cases p
    case emp => simp [word]; decreasing_trivial; simp [retQ]; exact fin _ 0 _ none rfl k0
    case agn => simp [word]; decreasing_trivial; simp [retQ]; exact fin _ 0 _ none rfl k0
    case few => simp [word]; decreasing_trivial; simp [retQ]; exact fin _ 0 _ none rfl k0
    case non => simp [word]; decreasing_trivial; simp [csLHa2]; decreasing_trivial; simp [retQ]; exact fin _ 0 _ none rfl k0
    case sgn => simp [word]; decreasing_trivial; simp [csLHa2]; decreasing_trivial; simp [retQ]; exact fin _ 0 _ none rfl k0
    all_goals
      simp [word]
      decreasing_trivial
      simp [csLHa2]
      decreasing_trivial
      simp
      refine told _ fun r g m4 e kg => ?_
      simp [csLHa4, word]
      decreasing_trivial
      simp [csLHa5]
    case nt a =>
      simp [x_lst e, inn, seqAt, retQ]
      exact fin _ 0 _ none (by simp [hasE]) kg
    all_goals
      decreasing_trivial
      simp
      first | rw [c_inBl e] | rw [c_ninBl e]
      simp only [retQ]
      refine fin _ 0 _ none ?_ kg
    case thn a b => simp [inn, hasE] <;> cases hasE a <;> cases hasE b <;> simp
    case orr a b => simp [inn, hasE] <;> cases hasE a <;> cases hasE b <;> simp
    case bth a b => simp [inn, hasE] <;> cases hasE a <;> cases hasE b <;> simp
    case tak x a => simp [inn, hasE]
def chg (o : List Nat) : Nat → Pt → Pt
  | 0 => pl
  | 1 => mr
  | _ => ex o
def csCh5 : CSs := .cons (.ret (.ife (.cmp .eq (.var 3) (.lit (.str "take"))) (.bin .add (.slc false true (.var 0) (.lit .non) (.lit (.int 2))) (.tup (.cons (.idx (.var 4) (.lit (.int 0))) .nil))) (.bin .add (.tup (.cons (.var 3) .nil)) (.bi .tuple (.cons (.var 4) .nil))))) .nil
def csCh4 : CSs := .cons (.ifs (.and (.cmp .eq (.var 1) (.lit (.int 1))) (.cmp .eq (.var 3) (.lit (.str "then")))) (.cons (.ret (.tup (.cons (.lit (.str "then")) (.cons (.idx (.var 4) (.lit (.int 1))) (.cons (.idx (.var 4) (.lit (.int 0))) .nil))))) .nil) .nil) csCh5
def csCh3 : CSs := .cons (.ifs (.and (.cmp .eq (.var 1) (.lit (.int 0))) (.cmp .isIn (.var 3) (.tup (.cons (.lit (.str "take")) (.cons (.lit (.str "few")) .nil))))) (.cons (.ret (.ife (.cmp .eq (.var 3) (.lit (.str "take"))) (.idx (.var 4) (.lit (.int 0))) (.tup (.cons (.lit (.str "again")) (.cons (.idx (.var 4) (.lit (.int 0))) .nil))))) .nil) .nil) csCh4
def csCh2 : CSs := .cons (.ifs (.cmp .eq (.var 3) (.lit (.str "sign"))) (.cons (.ret (.ife (.cmp .eq (.var 1) (.lit (.int 2))) (.tup (.cons (.lit (.str "sign")) (.cons (.idx (.var 2) (.idx (.var 0) (.lit (.int 1)))) .nil))) (.var 0))) .nil) .nil) csCh3
def csCh1 (ic ii : Nat) : CSs := .cons (.asg (.nm 4) (.comp (.call ic (.cons (.var 5) (.cons (.var 1) (.cons (.var 2) .nil)))) (.nm 5) (.val (inE ii)) (.lit (.bl true)) [5])) csCh2
def csCh (ic ii : Nat) : CSs := .cons (.asg (.nm 3) (.idx (.var 0) (.lit (.int 0)))) (csCh1 ic ii)
theorem changed_ok {ic w : Nat} {w' : Int} {o : List Nat} (ew : w' = w) (hw : w < 3) (hI : P[ii]? = some ⟨1, 2, csLIn⟩) (hC : P[ic]? = some ⟨3, 6, csCh ic ii⟩) (hfu : 100 < fu) : ∀ k (p : Pt) (h : EH) (d : Nat) (Q : PV → EH → Prop), dep p ≤ k → k + 1 ≤ d → sgb o.length p = true →
    (∀ g, Kp [] h.length h g → Q (enc (chg o w p)) g) → Rr (run P fu d ic [enc p, .int w', encH o] h) Q := by
  subst ew
  intro k
  induction k with
  | zero => intro p h d Q hp; have := dep_pos p; omega
  | succ k ihk =>
    intro p h d Q hp hd hs q
    obtain ⟨d, rfl⟩ : ∃ d', d = d' + 2 := ⟨d - 2, by omega⟩
    refine run_R hC rfl ?_
    rw [csCh, Ss_cons]
    simp [w_ix]
    rw [csCh1, Ss_cons, S_nm]
    refine inmap_ok (p := p) (val := fun c => enc (chg o w c)) (fun Q q => linE (d := d) hI rfl Q fun r g _ => q r g) (fun c hc g Q kg q2 => ?_) hfu fun r g hr e kg => ?_
    · simp [wipeE]
      exact ihk c g (d + 1) Q (by have := dep_inn hc; omega) (by omega) (sgb_inn hs hc) q2
    · have hw3 : w = 0 ∨ w = 1 ∨ w = 2 := by omega
      have fin : ∀ (p2 : Pt), p2 = chg o w p → Q (enc p2) g := fun p2 e2 => by rw [e2]; exact q g kg
      rcases hw3 with rfl | rfl | rfl
      · cases p
        case sgn s => simp [csCh2, word]; decreasing_trivial; simp [retQ]; exact fin _ rfl
        all_goals
          simp [csCh2, word]
          decreasing_trivial
          simp [csCh3]
          decreasing_trivial
          simp
        case tak x a => decreasing_trivial; simp [x_lst e, inn, seqAt, retQ]; exact fin (pl a) rfl
        case few a => decreasing_trivial; simp [x_lst e, inn, seqAt, retQ]; exact fin (.agn (pl a)) rfl
        all_goals
          simp [csCh4, csCh5]
          decreasing_trivial
          simp [b_tupR e, inn, retQ]
          exact q g kg
      · cases p
        case sgn s => simp [csCh2, word]; decreasing_trivial; simp [retQ]; exact q g kg
        all_goals
          simp [csCh2, word]
          decreasing_trivial
          simp [csCh3, csCh4]
          decreasing_trivial
          simp
        case thn a b => simp [x_lst e, inn, seqAt, retQ]; exact q g kg
        all_goals
          simp [csCh5]
          decreasing_trivial
          simp [b_tupR e, inn, retQ]
        case tak x a =>
          simp [enc, partOf, opSl, x_lst e, inn, seqAt]
          rw [show cutP [PV.str (Str.ofString "take"), .str x, enc a] none (some 2) = [PV.str (Str.ofString "take"), .str x] from rfl]
          simp
          exact q g kg
        all_goals exact q g kg
      · cases p
        case sgn s =>
          have hs' : s < o.length := by simpa [sgb] using hs
          simp [csCh2, word]
          decreasing_trivial
          simp [enc, seqAt]
          rw [K10.h_ix hs']
          simp [retQ]
          exact q g kg
        all_goals
          simp [csCh2, word]
          decreasing_trivial
          simp [csCh3, csCh4, csCh5]
          decreasing_trivial
          simp [b_tupR e, inn, retQ]
        case tak x a =>
          simp [enc, partOf, opSl, x_lst e, inn, seqAt]
          rw [show cutP [PV.str (Str.ofString "take"), .str x, enc a] none (some 2) = [PV.str (Str.ofString "take"), .str x] from rfl]
          simp
          exact q g kg
        all_goals exact q g kg
end
end K01
end EV

set_option Elab.async false
set_option linter.all false
set_option maxRecDepth 100000
set_option maxHeartbeats 4000000
/-! K01e: histories joined, turned about. -/
namespace EV
open PySem PySem.Spec
namespace K01
open K28
def csJoin : CSs := .cons (.ret (.bi .tuple (.cons (.comp2 (.var 2) (.nm 1) (.val (.var 0)) (.nm 2) (.val (.var 1)) [1, 2] [2]) .nil))) .nil
def csRevH : CSs := .cons (.ret (.rev (.var 0))) .nil
section
variable {P : List Fn} {fu d ii : Nat} {h : EH} {Q : PV → EH → Prop}
theorem compD_pure {ys : List PV} {f : PV → EH → Option (Option PV × EH)} (hf : ∀ y ∈ ys, f y h = some (some y, h)) : ∀ (n i : Nat) (acc : List PV), ys.length - i < n → i ≤ ys.length → acc.length + (ys.length - i) ≤ 1000000 → compD (.st ys) f n i acc h = some (acc ++ ys.drop i, h)
  | 0, i, acc, hn, _, _ => by omega
  | n + 1, i, acc, hn, hi, hz => by
    rw [compD]
    simp only [item]
    by_cases c : i < ys.length
    · rw [List.getElem?_eq_getElem c]
      simp only [hf _ (List.getElem_mem c)]
      rw [if_pos (by rw [sz]; omega), compD_pure hf n (i + 1) _ (by omega) (by omega) (by simp; omega), List.drop_eq_getElem_cons c, List.append_assoc]
      rfl
    · rw [List.getElem?_eq_none (by omega), List.drop_of_length_le (by omega), List.append_nil]
theorem comp2D_pure {J : Itr} {xss : List (List PV)} {g : PV → List PV → EH → Option (List PV × EH)} (hJ : ∀ i, item J i h = some ((xss.map PV.tup)[i]?)) (hg : ∀ ys ∈ xss, ∀ acc, acc.length + ys.length ≤ 1000000 → g (.tup ys) acc h = some (acc ++ ys, h)) :
    ∀ (n i : Nat) (acc : List PV), xss.length - i < n → i ≤ xss.length → acc.length + (xss.drop i).flatten.length ≤ 1000000 → comp2D J g n i acc h = some (acc ++ (xss.drop i).flatten, h)
  | 0, i, acc, hn, _, _ => by omega
  | n + 1, i, acc, hn, hi, hz => by
    rw [comp2D, hJ i, List.getElem?_map]
    by_cases c : i < xss.length
    · rw [List.drop_eq_getElem_cons c, List.flatten_cons, List.length_append] at hz
      rw [List.getElem?_eq_getElem c]
      simp only [Option.map_some, hg _ (List.getElem_mem c) acc (by omega)]
      rw [comp2D_pure hJ hg n (i + 1) _ (by omega) (by omega) (by rw [List.length_append]; omega), List.drop_eq_getElem_cons c, List.flatten_cons, List.append_assoc]
    · rw [List.getElem?_eq_none (by omega), List.drop_of_length_le (by omega)]
      simp
theorem joined_ok {v : PV} {J : Itr} {hs : List (List Nat)} (hP : P[ii]? = some ⟨1, 3, csJoin⟩) (hv : evI (run P fu d) fu (.val (.var 0)) [some v, none, none] h = some (J, h)) (hJ : ∀ i, item J i h = some ((hs.map encH)[i]?)) (hn : hs.length < itFuel fu J) (hz : hs.flatten.length ≤ 100000)
    (q : Q (encH hs.flatten) (h ++ [.lst (hs.flatten.map fun (s : Nat) => PV.int s)])) : Rr (run P fu (d + 1) ii [v] h) Q := by
  refine run_R hP rfl ?_
  have hJ2 : ∀ i, item J i h = some (((hs.map fun l => l.map fun (s : Nat) => PV.int s).map PV.tup)[i]?) := fun i => by
    rw [hJ i, List.map_map]; rfl
  have key : ev (run P fu d) fu (.comp2 (.var 2) (.nm 1) (.val (.var 0)) (.nm 2) (.val (.var 1)) [1, 2] [2]) [some v, none, none] h = some (.ref h.length, h ++ [.lst (hs.flatten.map fun (s : Nat) => PV.int s)]) := by
    simp only [ev, hv]
    rw [comp2D_pure (h := h) hJ2 ?_ (itFuel fu J) 0 [] (by simpa using hn) (Nat.zero_le _) (by simp [← List.map_flatten]; simp at hz; omega)]
    · simp only [new, List.drop_zero, List.nil_append]
      rw [← List.map_flatten]
    · intro ys hy acc hacc
      simp [bindT, wipeE, evI, ev, itFuel]
      rw [compD_pure (fun y hy => by simp) _ _ _ (by simp) (Nat.zero_le _) (by simpa using hacc)]
      simp
  rw [csJoin, Ss_cons, S_ret, E_bi, Es_cons]
  refine ⟨_, key, ?_⟩
  refine Es_nil.mpr ?_
  rw [b_tupR get_new]
  simp only [retQ]
  exact q
theorem revh_ok {hs : List Nat} (hP : P[ii]? = some ⟨1, 1, csRevH⟩) (q : Q (encH hs.reverse) h) : Rr (run P fu (d + 1) ii [encH hs] h) Q := by
  refine run_R hP rfl ?_
  simp [csRevH, encH, opRev, retQ]
  simpa [encH] using q
end
end K01
end EV

set_option Elab.async false
set_option linter.all false
set_option maxRecDepth 100000
set_option maxHeartbeats 4000000
/-! K01f: drawn patterns. -/
namespace EV
open PySem PySem.Spec
namespace K01
open K28
local macro_rules | `(tactic| decreasing_trivial) => `(tactic| (rw [w_eq true]; rotate_left; focus (decide +kernel)))
local macro_rules | `(tactic| decreasing_trivial) => `(tactic| (rw [w_eq false]; rotate_left; focus (decide +kernel)))
structure Dr (p : Pt) (many room D : Nat) : Prop where
  dt : gp p = true
  sg : sgb many p = true
  sz : size p ≤ max 1 room
  dp : dep p ≤ D + 1
def NmL (h : EH) (m : Nat) : Prop := ∃ xs : List Str, h[m]? = some (.lst (xs.map PV.str)) ∧ xs.length ≤ 5 ∧ ∀ x ∈ xs, nmOk x = true
def dr5 (id : Nat) : CSs := .cons (.ret (.tup (.cons (.var 7) (.cons (.var 10) (.cons (.call id (.cons (.var 0) (.cons (.var 1) (.cons (.bin .sub (.bin .sub (.var 2) (.lit (.int 1))) (.var 9)) (.cons (.or (.var 3) (.cmp .eq (.var 7) (.lit (.str "both")))) (.cons (.var 4) (.cons (.var 5) .nil))))))) .nil))))) .nil
def dr4 (id : Nat) : CSs := .cons (.asg (.nm 10) (.call id (.cons (.var 0) (.cons (.var 1) (.cons (.var 9) (.cons (.or (.var 3) (.cmp .eq (.var 7) (.lit (.str "both")))) (.cons (.var 4) (.cons (.var 5) .nil)))))))) (dr5 id)
def dr3 (id io ip : Nat) : CSs := .cons (.par [7, 9] (.cons (.call io (.cons (.var 0) (.cons (.lst (.cons (.lit (.str "then")) (.cons (.lit (.str "then")) (.cons (.lit (.str "then")) (.cons (.lit (.str "or")) (.cons (.lit (.str "or")) (.cons (.lit (.str "both")) .nil))))))) .nil))) (.cons (.bin .add (.lit (.int 1)) (.call ip (.cons (.var 0) (.cons (.bin .sub (.var 2) (.lit (.int 2))) .nil)))) .nil))) (dr4 id)
def dr2d (id : Nat) : CSs := .cons (.ret (.tup (.cons (.var 7) (.cons (.call id (.cons (.var 0) (.cons (.var 1) (.cons (.bin .sub (.var 2) (.lit (.int 1))) (.cons (.or (.var 3) (.cmp .eq (.var 7) (.lit (.str "not")))) (.cons (.var 4) (.cons (.var 5) .nil))))))) .nil)))) .nil
def dr2c (id : Nat) : CSs := .cons (.asg (.nm 7) (.ife (.cmp .eq (.var 7) (.lit (.str "take"))) (.lit (.str "again")) (.var 7))) (dr2d id)
def dr2t1 (id : Nat) : CSs := .cons (.ret (.tup (.cons (.var 7) (.cons (.var 8) (.cons (.call id (.cons (.var 0) (.cons (.var 1) (.cons (.bin .sub (.var 2) (.lit (.int 1))) (.cons (.lit (.bl false)) (.cons (.var 4) (.cons (.var 5) .nil))))))) .nil))))) .nil
def dr2t (id : Nat) : CSs := .cons (.asg (.nm 8) (.meth .pop (.var 4) .nil)) (dr2t1 id)
def dr2b (id : Nat) : CSs := .cons (.ifs (.and (.cmp .eq (.var 7) (.lit (.str "take"))) (.cmp .ne (.var 4) (.lst .nil))) (dr2t id) .nil) (dr2c id)
def dr2a (id io : Nat) : CSs := .cons (.asg (.nm 7) (.call io (.cons (.var 0) (.cons (.bin .add (.lst (.cons (.lit (.str "not")) (.cons (.lit (.str "again")) (.cons (.lit (.str "again")) .nil)))) (.bin .mul (.lst (.cons (.lit (.str "few")) (.cons (.lit (.str "take")) (.cons (.lit (.str "take")) .nil)))) (.bi .int (.cons (.nt (.var 3)) .nil)))) .nil)))) (dr2b id)
def dr2 (id io ip : Nat) : CSs := .cons (.ifs (.or (.cmp .lt (.var 2) (.lit (.int 3))) (.cmp .lt (.var 6) (.lit (.int 6)))) (dr2a id io) .nil) (dr3 id io ip)
def dr1a (io ip : Nat) : CSs := .cons (.ret (.call io (.cons (.var 0) (.cons (.bin .add (.bin .mul (.lst (.cons (.tup (.cons (.lit (.str "sign")) (.cons (.call ip (.cons (.var 0) (.cons (.var 1) .nil))) .nil))) .nil)) (.lit (.int 5))) (.lst (.cons (.tup (.cons (.lit (.str "empty")) .nil)) (.cons (.tup (.cons (.lit (.str "none")) .nil)) .nil)))) .nil)))) .nil
def dr1 (id io ip : Nat) : CSs := .cons (.ifs (.or (.cmp .lt (.var 2) (.lit (.int 2))) (.or (.cmp .lt (.var 6) (.lit (.int 2))) (.cmp .lt (.var 5) (.lit (.int 1))))) (dr1a io ip) .nil) (dr2 id io ip)
def csDr (id io ip : Nat) : CSs := .cons (.par [6, 5] (.cons (.call ip (.cons (.var 0) (.cons (.lit (.int 12)) .nil))) (.cons (.bin .sub (.var 5) (.lit (.int 1))) .nil))) (dr1 id io ip)
section
variable {P : List Fn} {fu d id io ip : Nat} {n c m : Nat} {h h0 : EH} {Q : PV → EH → Prop} {p : Pt} {many room D : Nat}
theorem Dr.more {room2 : Nat} (x : Dr p many room D) (h : room ≤ room2) : Dr p many room2 D := ⟨x.dt, x.sg, by have := x.sz; omega, x.dp⟩
theorem NmL.kp {M : List Nat} {k : Nat} {g : EH} (x : NmL h m) (kk : Kp M k h g) (hm : m < k) (hM : m ∉ M) : NmL g m := by
  obtain ⟨xs, e, a, b⟩ := x
  exact ⟨xs, kk.get e hm hM, a, b⟩
def DrAt (P : List Fn) (fu id n c m many D : Nat) : Prop := ∀ (room : Nat) (b : Bool) (h : EH) (d : Nat) (Q : PV → EH → Prop), D + 10 ≤ d → room ≤ 1000 → Src n c h → NmL h m →
    (∀ p h', Dr p many room D → Src n c h' → NmL h' m → Kp [n, c, m] h.length h h' → Q (enc p) h') → Rr (run P fu d id [.ref n, .int (many : Nat), .int (room : Nat), .bl b, .ref m, .int (D : Nat)] h) Q
theorem ofR {xs : List PV} {r : Nat} (hP : P[ip]? = some ⟨2, 4, csPick⟩) (hO : P[io]? = some ⟨2, 2, csOf ip⟩) (hs : Src n c h) (e : h[r]? = some (.lst xs)) (hrn : r ≠ n) (hrc : r ≠ c) (h0 : 0 < xs.length) (h1 : xs.length ≤ 1000) (hfu : 100 < fu)
    (q : ∀ x h', x ∈ xs → Src n c h' → Kp [n, c] h.length h h' → Q x h') : Rr (run P fu (d + 2) io [.ref n, .ref r] h) Q := by
  refine of_ok hP hO hs (fun Q' => b_lenR e) h0 (by omega) hfu fun g k hk sg kg => ?_
  have e2 := kg.get e (get_lt e) (by simp; omega)
  rw [x_lst e2, seqAt_nat, List.getElem?_eq_getElem hk]
  simp only [R_some]
  exact q _ _ (List.getElem_mem hk) sg kg
theorem o_mulLL {xs : List PV} {r k : Nat} {k' : Int} (ek : k' = k) (e : h[r]? = some (.lst xs)) (hk : k ≤ 1000) (hx : xs.length ≤ 1000) : Rr (opB .mul (.ref r) (.int k') h) Q ↔ Q (.ref h.length) (h ++ [.lst (List.replicate k xs).flatten]) := by
  subst ek
  simp only [opB, e]
  have h3 : xs.length * ((k : Nat) : Int).toNat ≤ 1000 * 1000 := Nat.mul_le_mul hx (by rw [Int.toNat_natCast]; exact hk)
  rw [if_pos ⟨by omega, by omega, by rw [sz]; omega⟩]
  rw [Rr_newL, Int.toNat_natCast]
  constructor
  · exact fun z => z.2
  · refine fun z => ⟨?_, z⟩
    rw [List.length_flatten, sz]
    simp
    have : k * xs.length ≤ 1000 * 1000 := Nat.mul_le_mul hk hx
    omega
theorem nm_dats {xs : List Str} (hx : ∀ x ∈ xs, nmOk x = true) : Dats h 0 (xs.length * 21) (xs.map PV.str) (xs.map PyData.str) :=
  Dats.map fun x z => by
    have := hx x z
    simp [nmOk] at this
    exact Dat.str this.1 this.2
theorem ne_names {r r2 : Nat} {xs : List Str} {Qb : Bool → Prop} (e : h[r]? = some (.lst (xs.map PV.str))) (hx : ∀ x ∈ xs, nmOk x = true) (e2 : h[r2]? = some (.lst [])) : R (opC .ne (.ref r) (.ref r2) h) Qb ↔ Qb (!xs.isEmpty) := by
  simp only [opC, eqD_of (Dats.lst (nm_dats hx) e) (lst0 e2) (by omega) (by omega), Option.map_some, R_some, PyData.eqv]
  cases xs <;> simp [PyData.eqvAll]
theorem pop_names {r : Nat} {xs : List Str} {x : Str} (e : h[r]? = some (.lst ((xs ++ [x]).map PV.str))) : Rr (opMe .pop (.ref r) [] h) Q ↔ Q (.str x) (h.set r (.lst (xs.map PV.str))) := by
  simp [opMe, e]
theorem dr1a_ok (hP : P[ip]? = some ⟨2, 4, csPick⟩) (hO : P[io]? = some ⟨2, 2, csOf ip⟩) (h1 : 1 ≤ many) (h2 : many ≤ 900) (hfu : 100 < fu) (hs : Src n c h) {s2 s3 s4 s5 s6 s7 s8 s9 s10 : Option PV} {T : Fl → Sg → EH → Prop} (hT : ∀ v s h, Q v h → T (.rt v) s h)
    (q : ∀ p h', Dr p many 0 0 → Src n c h' → Kp [n, c] h.length h h' → Q (enc p) h') :
    Ss (run P fu (d + 2)) fu (dr1a io ip) [some (.ref n), some (.int (many : Nat)), s2, s3, s4, s5, s6, s7, s8, s9, s10] h T := by
  simp [dr1a]
  refine pick_ok (d := d + 1) hP hs (by omega) (by omega) hfu fun v g v0 v1 s1 k1 => ?_
  rw [o_mulLL (k := 5) (k' := 5) rfl get_new (by omega) (by simp)]
  rw [o_addLL (xs := (List.replicate 5 [PV.tup [PV.str (Str.ofString "sign"), PV.int v]]).flatten) (ys := [.tup [.str "empty"], .tup [.str "none"]]) (by rw [List.getElem?_append_left (by simp)]; exact get_new) get_new (by simp)]
  have lt := s1.lt
  generalize hg2 : ((g ++ [EO.lst [PV.tup [PV.str (Str.ofString "sign"), PV.int v]]]) ++ [EO.lst (List.replicate 5 [PV.tup [PV.str (Str.ofString "sign"), PV.int v]]).flatten]) ++ [EO.lst [PV.tup [PV.str (Str.ofString "empty")], PV.tup [PV.str (Str.ofString "none")]]] = g2
  have s2' : Src n c g2 := by rw [← hg2]; exact K39.Src.new (K39.Src.new (K39.Src.new s1))
  have k2 : Kp [n, c] g.length g g2 := by
    rw [← hg2]
    exact ((Kp.new (Nat.le_refl _)).trans (Kp.new (by simp))).trans (Kp.new (by simp))
  have kk := k1.trans (k2.less k1.2.1)
  refine ofN (d := d) hP hO s2' (by simp) (by simp) hfu fun x g3 hx s3 k3 => ?_
  refine hT _ _ _ ?_
  have k4 := kk.trans (k3.less kk.2.1)
  simp at hx
  rcases hx with rfl | rfl | rfl
  · have := q (.sgn v.toNat) g3 ⟨by simp [gp]; omega, by simp [sgb]; omega, by simp [size], by simp [dep]⟩ s3 k4
    simpa [enc, Int.toNat_of_nonneg v0] using this
  · exact q .emp g3 ⟨rfl, rfl, by simp [size], by simp [dep]⟩ s3 k4
  · exact q .non g3 ⟨rfl, rfl, by simp [size], by simp [dep]⟩ s3 k4
/-- one inner one more -/
theorem dr_un {a : Pt} {mk : Pt → Pt} (x : Dr a many (room - 1) D) (hr : 2 ≤ room) (h1 : gp (mk a) = gp a) (h2 : sgb many (mk a) = sgb many a) (h3 : size (mk a) = 1 + size a) (h4 : dep (mk a) = dep a + 1) : Dr (mk a) many room (D + 1) :=
  ⟨by rw [h1]; exact x.dt, by rw [h2]; exact x.sg, by have := x.sz; omega, by have := x.dp; omega⟩
theorem dr2d_ok {b : Bool} {w : Str} {mk : Pt → Pt} (G : DrAt P fu id n c m many D) (hd : D + 10 ≤ d) (hr : 2 ≤ room) (hr2 : room ≤ 1000) (hs : Src n c h) (hm : NmL h m) {s6 s8 s9 s10 : Option PV} {T : Fl → Sg → EH → Prop} (hT : ∀ v s h, Q v h → T (.rt v) s h)
    (hw : ∀ (h : EH) (Qb : Bool → Prop), ∃ t, R (opC .eq (.str w) (.str "not") h) Qb ↔ Qb t) (he : ∀ a, enc (mk a) = .tup [.str w, enc a]) (hg : ∀ a, gp (mk a) = gp a ∧ sgb many (mk a) = sgb many a ∧ size (mk a) = 1 + size a ∧ dep (mk a) = dep a + 1)
    (k0 : Kp [n, c, m] h0.length h0 h) (q : ∀ p h', Dr p many room (D + 1) → Src n c h' → NmL h' m → Kp [n, c, m] h0.length h0 h' → Q (enc p) h') :
    Ss (run P fu d) fu (dr2d id) [some (.ref n), some (.int (many : Nat)), some (.int (room : Nat)), some (.bl b), some (.ref m), some (.int (D : Nat)), s6, some (.str w), s8, s9, s10] h T := by
  rw [dr2d, Ss_cons, S_ret, E_tup, Es_cons, E_var]
  refine ⟨_, rfl, ?_⟩
  have call : ∀ b2 : Bool, Rr (run P fu d id [.ref n, .int (many : Nat), .int ((room : Int) - 1), .bl b2, .ref m, .int (D : Nat)] h) fun y h1 => Es (run P fu d) fu .nil [some (.ref n), some (.int (many : Nat)), some (.int (room : Nat)), some (.bl b), some (.ref m), some (.int (D : Nat)), s6, some (.str w), s8, s9, s10] h1 fun xs h2 => Rr (newT (.str w :: y :: xs) h2) fun v h1 => nxt (run P fu d) fu .nil T (.rt v) [some (.ref n), some (.int (many : Nat)), some (.int (room : Nat)), some (.bl b), some (.ref m), some (.int (D : Nat)), s6, some (.str w), s8, s9, s10] h1 := fun b2 => by
    rw [show ((room : Int) - 1) = ((room - 1 : Nat) : Int) by omega]
    refine G (room - 1) b2 h d _ hd (by omega) hs hm fun a g ga s1 n1 k1 => ?_
    obtain ⟨g1, g2, g3, g4⟩ := hg a
    simp
    rw [← he]
    exact hT _ _ _ (q (mk a) g (dr_un ga hr g1 g2 g3 g4) s1 n1 (k0.trans (k1.less k0.2.1)))
  cases b with
  | true => simpa using call true
  | false =>
    simp
    obtain ⟨t, ht⟩ := hw h fun t => Rr (run P fu d id [.ref n, .int (many : Nat), .int ((room : Int) - 1), .bl t, .ref m, .int (D : Nat)] h) fun x h1 => T (.rt (.tup [.str w, x])) [some (.ref n), some (.int (many : Nat)), some (.int (room : Nat)), some (.bl false), some (.ref m), some (.int (D : Nat)), s6, some (.str w), s8, s9, s10] h1
    rw [ht]
    have := call t
    simpa using this
end
end K01
end EV

set_option Elab.async false
set_option linter.all false
set_option maxRecDepth 100000
set_option maxHeartbeats 4000000
/-! K01g: drawn patterns, on. -/
namespace EV
open PySem PySem.Spec
namespace K01
open K28
local macro_rules | `(tactic| decreasing_trivial) => `(tactic| (rw [w_eq true]; rotate_left; focus (decide +kernel)))
local macro_rules | `(tactic| decreasing_trivial) => `(tactic| (rw [w_eq false]; rotate_left; focus (decide +kernel)))
section
variable {P : List Fn} {fu d id io ip : Nat} {n c m : Nat} {h h0 : EH} {Q : PV → EH → Prop} {p : Pt} {many room D : Nat}
theorem eqw (x y : Str) (t : Bool) (ck : ckE (.str x) (.str y) t = true) (h : EH) (Qb : Bool → Prop) : ∃ t, R (opC .eq (.str x) (.str y) h) Qb ↔ Qb t := ⟨t, w_eq t ck⟩
theorem dr2c_ok {b : Bool} {w w2 : Str} {tk : Bool} {mk : Pt → Pt} (G : DrAt P fu id n c m many D) (hd : D + 10 ≤ d) (hr : 2 ≤ room) (hr2 : room ≤ 1000) (hs : Src n c h) (hm : NmL h m) {s6 s8 s9 s10 : Option PV} {T : Fl → Sg → EH → Prop} (hT : ∀ v s h, Q v h → T (.rt v) s h)
    (ck : ckE (.str w) (.str "take") tk = true) (hw2 : w2 = if tk = true then ("again" : Str) else w)
    (hw : ∀ (h : EH) (Qb : Bool → Prop), ∃ t, R (opC .eq (.str w2) (.str "not") h) Qb ↔ Qb t) (he : ∀ a, enc (mk a) = .tup [.str w2, enc a]) (hg : ∀ a, gp (mk a) = gp a ∧ sgb many (mk a) = sgb many a ∧ size (mk a) = 1 + size a ∧ dep (mk a) = dep a + 1)
    (k0 : Kp [n, c, m] h0.length h0 h) (q : ∀ p h', Dr p many room (D + 1) → Src n c h' → NmL h' m → Kp [n, c, m] h0.length h0 h' → Q (enc p) h') :
    Ss (run P fu d) fu (dr2c id) [some (.ref n), some (.int (many : Nat)), some (.int (room : Nat)), some (.bl b), some (.ref m), some (.int (D : Nat)), s6, some (.str w), s8, s9, s10] h T := by
  rw [dr2c, Ss_cons]
  simp
  rw [w_eq tk ck]
  have := dr2d_ok (b := b) (w := w2) (mk := mk) (s6 := s6) (s8 := s8) (s9 := s9) (s10 := s10) G hd hr hr2 hs hm hT hw he hg k0 q
  cases tk with
  | true => simp at hw2 ⊢; subst hw2; exact this
  | false => simp at hw2 ⊢; subst hw2; exact this
theorem dr2b_ok {b : Bool} {w w2 : Str} {tk : Bool} {mk : Pt → Pt} (mn : m ≠ n) (mc : m ≠ c) (G : DrAt P fu id n c m many D) (hd : D + 10 ≤ d) (hr : 2 ≤ room) (hr2 : room ≤ 1000) (hs : Src n c h) (hm : NmL h m) {s6 s8 s9 s10 : Option PV} {T : Fl → Sg → EH → Prop} (hT : ∀ v s h, Q v h → T (.rt v) s h)
    (ck : ckE (.str w) (.str "take") tk = true) (htk : tk = true → w = "take") (hw2 : w2 = if tk = true then ("again" : Str) else w)
    (hw : ∀ (h : EH) (Qb : Bool → Prop), ∃ t, R (opC .eq (.str w2) (.str "not") h) Qb ↔ Qb t) (he : ∀ a, enc (mk a) = .tup [.str w2, enc a]) (hg : ∀ a, gp (mk a) = gp a ∧ sgb many (mk a) = sgb many a ∧ size (mk a) = 1 + size a ∧ dep (mk a) = dep a + 1)
    (k0 : Kp [n, c, m] h0.length h0 h) (q : ∀ p h', Dr p many room (D + 1) → Src n c h' → NmL h' m → Kp [n, c, m] h0.length h0 h' → Q (enc p) h') :
    Ss (run P fu d) fu (dr2b id) [some (.ref n), some (.int (many : Nat)), some (.int (room : Nat)), some (.bl b), some (.ref m), some (.int (D : Nat)), s6, some (.str w), s8, s9, s10] h T := by
  rw [dr2b, Ss_cons]
  simp
  rw [w_eq tk ck]
  cases tk with
  | false =>
    simp
    exact dr2c_ok G hd hr hr2 hs hm hT ck hw2 hw he hg k0 q
  | true =>
    have hwt := htk rfl
    subst hwt
    simp
    obtain ⟨xs, e, l5, nm⟩ := hm
    have ltm := get_lt e
    have e1 : (h ++ [EO.lst []])[m]? = some (.lst (xs.map PV.str)) := by rw [List.getElem?_append_left ltm]; exact e
    rw [ne_names e1 nm get_new]
    have hs1 := K39.Src.new (o := .lst []) hs
    have k1 : Kp [n, c, m] h0.length h0 (h ++ [EO.lst []]) := k0.trans (Kp.new k0.2.1)
    cases hx : xs.isEmpty with
    | true =>
      simp
      exact dr2c_ok G hd hr hr2 hs1 ⟨xs, e1, l5, nm⟩ hT ck hw2 hw he hg k1 q
    | false =>
      simp
      obtain ⟨ys, y, rfl⟩ : ∃ ys y, xs = ys ++ [y] := by
        refine ⟨xs.dropLast, xs.getLast (by rintro rfl; simp at hx), ?_⟩
        rw [List.dropLast_concat_getLast]
      generalize h ++ [EO.lst []] = g1 at e1 hs1 k1
      rw [dr2t, Ss_cons]
      simp [k_lst e1]
      rw [pop_names e1]
      have hny : nmOk y = true := nm y (by simp)
      have lt := hs1.lt
      have ltm := get_lt e1
      have s2 : Src n c (g1.set m (.lst (ys.map PV.str))) := by
        obtain ⟨us, l, mm, tt, z⟩ := hs1
        exact ⟨us, l, mm, tt, z.keep (List.getElem?_set_ne mn) (List.getElem?_set_ne mc)⟩
      have n2 : NmL (g1.set m (.lst (ys.map PV.str))) m := ⟨ys, by rw [List.getElem?_set_self ltm], by simp at l5; omega, fun x hx => nm x (by simp [hx])⟩
      have k2 : Kp [n, c, m] h0.length h0 (g1.set m (.lst (ys.map PV.str))) := k1.trans (Kp.set k1.2.1 (.inl (by simp)))
      try simp
      rw [dr2t1, Ss_cons]
      simp
      rw [show ((room : Int) - 1) = ((room - 1 : Nat) : Int) by omega]
      refine G (room - 1) false _ d _ hd (by omega) s2 n2 fun a g ga s3 n3 k3 => ?_
      try simp
      refine hT _ _ _ (q (.tak y a) g (dr_un (mk := .tak y) ga hr (by simp [gp, hny]) rfl rfl rfl) s3 n3 (k2.trans (k3.less k2.2.1)))
theorem dr2a_ok {b : Bool} (hP : P[ip]? = some ⟨2, 4, csPick⟩) (hO : P[io]? = some ⟨2, 2, csOf ip⟩) (hfu : 100 < fu) (mn : m ≠ n) (mc : m ≠ c) (G : DrAt P fu id n c m many D) (hd : D + 10 ≤ d + 2) (hr : 2 ≤ room) (hr2 : room ≤ 1000) (hs : Src n c h) (hm : NmL h m) {s6 s7 s8 s9 s10 : Option PV} {T : Fl → Sg → EH → Prop} (hT : ∀ v s h, Q v h → T (.rt v) s h)
    (q : ∀ p h', Dr p many room (D + 1) → Src n c h' → NmL h' m → Kp [n, c, m] h.length h h' → Q (enc p) h') :
    Ss (run P fu (d + 2)) fu (dr2a id io) [some (.ref n), some (.int (many : Nat)), some (.int (room : Nat)), some (.bl b), some (.ref m), some (.int (D : Nat)), s6, s7, s8, s9, s10] h T := by
  rw [dr2a, Ss_cons]
  simp
  have lt := hs.lt
  have hm' := hm
  obtain ⟨xs0, e0, _⟩ := hm'
  have ltm := get_lt e0
  have eb : (if b = false then (1 : Int) else 0) = ((if b = false then 1 else 0 : Nat) : Int) := by cases b <;> rfl
  rw [o_mulLL (k := if b = false then 1 else 0) (xs := [.str "few", .str "take", .str "take"]) (by cases b <;> simp) (by simp) (by cases b <;> simp) (by simp)]
  rw [o_addLL (xs := [.str "not", .str "again", .str "again"]) (ys := (List.replicate (if b = false then 1 else 0) [PV.str "few", .str "take", .str "take"]).flatten) (by simp) (by simp) (by cases b <;> simp)]
  generalize hg2 : ((h ++ _) ++ [EO.lst (List.replicate (if b = false then 1 else 0) [PV.str "few", .str "take", .str "take"]).flatten]) = g2
  have s2 : Src n c g2 := by
    have : ∀ (os : List EO) (h : EH), Src n c h → Src n c (h ++ os) := fun os => by
      induction os with
      | nil => intro h hs; simpa using hs
      | cons o os ih => intro h hs; rw [show h ++ o :: os = (h ++ [o]) ++ os by simp]; exact ih _ (K39.Src.new hs)
    rw [← hg2, List.append_assoc]
    exact this _ _ hs
  have k2 : Kp [n, c, m] h.length h g2 := by
    rw [← hg2, List.append_assoc]
    exact ⟨Nat.le_refl _, by simp, fun k hk _ => by rw [List.getElem?_append_left hk]⟩
  have n2 : NmL g2 m := by
    obtain ⟨xs, e, a, b⟩ := hm
    exact ⟨xs, by rw [← hg2, List.append_assoc, List.getElem?_append_left ltm]; exact e, a, b⟩
  refine ofN (d := d) hP hO s2 (by simp) (by cases b <;> simp) hfu fun x g3 hx s3 k3 => ?_
  have n3 : NmL g3 m := by
    obtain ⟨xs, e, a, b⟩ := n2
    exact ⟨xs, k3.get e (get_lt e) (by simp; exact ⟨mn, mc⟩), a, b⟩
  have kk : Kp [n, c, m] h.length h g3 := k2.trans ((k3.less k2.2.1).more (by intro z hz _; simp at hz ⊢; omega))
  have hx' : x = .str "not" ∨ x = .str "again" ∨ x = .str "few" ∨ x = .str "take" := by
    cases b <;> simp at hx <;> rcases hx with rfl | rfl | rfl | rfl <;> simp
  have go : ∀ {w w2 : Str} {tk : Bool} {mk : Pt → Pt}, ckE (.str w) (.str "take") tk = true → (tk = true → w = "take") → (w2 = if tk = true then ("again" : Str) else w) →
      (∀ (h : EH) (Qb : Bool → Prop), ∃ t, R (opC .eq (.str w2) (.str "not") h) Qb ↔ Qb t) → (∀ a, enc (mk a) = .tup [.str w2, enc a]) → (∀ a, gp (mk a) = gp a ∧ sgb many (mk a) = sgb many a ∧ size (mk a) = 1 + size a ∧ dep (mk a) = dep a + 1) →
      Ss (run P fu (d + 2)) fu (dr2b id) [some (.ref n), some (.int (many : Nat)), some (.int (room : Nat)), some (.bl b), some (.ref m), some (.int (D : Nat)), s6, some (.str w), s8, s9, s10] g3 T := fun h1 h2 h3 h4 h5 h6 =>
    dr2b_ok mn mc G hd hr hr2 s3 n3 hT h1 h2 h3 h4 h5 h6 kk q
  rcases hx' with rfl | rfl | rfl | rfl
  · exact go (w := "not") (w2 := "not") (tk := false) (mk := .nt) (by decide +kernel) (by simp) rfl (eqw _ _ true (by decide +kernel)) (fun _ => rfl) (fun _ => ⟨rfl, rfl, rfl, rfl⟩)
  · exact go (w := "again") (w2 := "again") (tk := false) (mk := .agn) (by decide +kernel) (by simp) rfl (eqw _ _ false (by decide +kernel)) (fun _ => rfl) (fun _ => ⟨rfl, rfl, rfl, rfl⟩)
  · exact go (w := "few") (w2 := "few") (tk := false) (mk := .few) (by decide +kernel) (by simp) rfl (eqw _ _ false (by decide +kernel)) (fun _ => rfl) (fun _ => ⟨rfl, rfl, rfl, rfl⟩)
  · exact go (w := "take") (w2 := "again") (tk := true) (mk := .agn) (by decide +kernel) (fun _ => rfl) rfl (eqw _ _ false (by decide +kernel)) (fun _ => rfl) (fun _ => ⟨rfl, rfl, rfl, rfl⟩)
end
end K01
end EV

set_option Elab.async false
set_option linter.all false
set_option maxRecDepth 100000
set_option maxHeartbeats 4000000
/-! K01h: drawn patterns, to the end. -/
namespace EV
open PySem PySem.Spec
namespace K01
open K28
local macro_rules | `(tactic| decreasing_trivial) => `(tactic| (rw [w_eq true]; rotate_left; focus (decide +kernel)))
local macro_rules | `(tactic| decreasing_trivial) => `(tactic| (rw [w_eq false]; rotate_left; focus (decide +kernel)))
section
variable {P : List Fn} {fu d id io ip : Nat} {n c m : Nat} {h h0 : EH} {Q : PV → EH → Prop} {p : Pt} {many room D f : Nat}
theorem kMM {M : List Nat} {k : Nat} {g : EH} (x : Kp [n, c] k h g) : Kp [n, c, m] k h g := x.more (by intro z hz _; simp at hz ⊢; omega)
theorem dr_bin {a b : Pt} {mk : Pt → Pt → Pt} (x : Dr a many f D) (y : Dr b many (room - 1 - f) D) (h1 : 1 ≤ f) (h2 : f + 2 ≤ room) (e1 : gp (mk a b) = (gp a && gp b)) (e2 : sgb many (mk a b) = (sgb many a && sgb many b)) (e3 : size (mk a b) = 1 + size a + size b) (e4 : dep (mk a b) = max (dep a) (dep b) + 1) : Dr (mk a b) many room (D + 1) :=
  ⟨by rw [e1, x.dt, y.dt]; rfl, by rw [e2, x.sg, y.sg]; rfl, by have := x.sz; have := y.sz; omega, by have := x.dp; have := y.dp; omega⟩
theorem or_ok {F : Ca} {b : Bool} {w : Str} {tb : Bool} {s : Sg} (e3 : s[3]? = some (some (.bl b))) (e7 : s[7]? = some (some (.str w))) (ck : ckE (.str w) (.str "both") tb = true) (q : ∀ t : Bool, Q (.bl t) h) : E F fu (.or (.var 3) (.cmp .eq (.var 7) (.lit (.str "both")))) s h Q := by
  simp only [E_or, E_var, E_cmp, E_lit]
  refine ⟨_, e3, ?_⟩
  rw [T_bl]
  cases b with
  | true => simpa using q true
  | false =>
    simp only [Bool.false_eq_true, if_false]
    refine ⟨_, e7, ?_⟩
    rw [w_eq tb ck]
    exact q tb
theorem dr4_ok {b : Bool} {w : Str} {tb : Bool} {mk : Pt → Pt → Pt} (G : DrAt P fu id n c m many D) (hd : D + 10 ≤ d) (h1 : 1 ≤ f) (h2 : f + 2 ≤ room) (hr2 : room ≤ 1000) (hs : Src n c h) (hm : NmL h m) {s6 s8 s10 : Option PV} {T : Fl → Sg → EH → Prop} (hT : ∀ v s h, Q v h → T (.rt v) s h)
    (ck : ckE (.str w) (.str "both") tb = true) (he : ∀ a b, enc (mk a b) = .tup [.str w, enc a, enc b]) (hg : ∀ a b, gp (mk a b) = (gp a && gp b) ∧ sgb many (mk a b) = (sgb many a && sgb many b) ∧ size (mk a b) = 1 + size a + size b ∧ dep (mk a b) = max (dep a) (dep b) + 1)
    (k0 : Kp [n, c, m] h0.length h0 h) (q : ∀ p h', Dr p many room (D + 1) → Src n c h' → NmL h' m → Kp [n, c, m] h0.length h0 h' → Q (enc p) h') :
    Ss (run P fu d) fu (dr4 id) [some (.ref n), some (.int (many : Nat)), some (.int (room : Nat)), some (.bl b), some (.ref m), some (.int (D : Nat)), s6, some (.str w), s8, some (.int (f : Nat)), s10] h T := by
  rw [dr4, Ss_cons, S_nm, E_call, Es_cons, E_var]
  refine ⟨_, rfl, ?_⟩
  rw [Es_cons, E_var]
  refine ⟨_, rfl, ?_⟩
  rw [Es_cons, E_var]
  refine ⟨_, rfl, ?_⟩
  rw [Es_cons]
  refine or_ok (tb := tb) rfl rfl ck fun t => ?_
  rw [Es_cons, E_var]
  refine ⟨_, rfl, ?_⟩
  rw [Es_cons, E_var]
  refine ⟨_, rfl, ?_⟩
  rw [Es_nil]
  refine G f t h d _ hd (by omega) hs hm fun a g ga s1 n1 k1 => ?_
  rw [nxt_nx, dr5, Ss_cons, S_ret, E_tup, Es_cons, E_var]
  refine ⟨_, rfl, ?_⟩
  rw [Es_cons, E_var]
  refine ⟨_, rfl, ?_⟩
  rw [Es_cons, E_call, Es_cons, E_var]
  refine ⟨_, rfl, ?_⟩
  rw [Es_cons, E_var]
  refine ⟨_, rfl, ?_⟩
  rw [Es_cons]
  simp only [E_bin, E_var, E_lit]
  refine ⟨_, rfl, ?_⟩
  rw [o_sub]
  refine ⟨_, rfl, ?_⟩
  rw [o_sub, Es_cons]
  refine or_ok (tb := tb) rfl rfl ck fun t2 => ?_
  rw [Es_cons, E_var]
  refine ⟨_, rfl, ?_⟩
  rw [Es_cons, E_var]
  refine ⟨_, rfl, ?_⟩
  rw [Es_nil, show ((room : Int) - 1 - (f : Nat)) = ((room - 1 - f : Nat) : Int) by omega]
  have kk := k0.trans (k1.less k0.2.1)
  refine G (room - 1 - f) t2 g d _ hd (by omega) s1 n1 fun b2 g2 gb s2 n2 k2 => ?_
  rw [Es_nil]
  simp
  rw [← he]
  obtain ⟨e1, e2, e3, e4⟩ := hg a b2
  exact hT _ _ _ (q _ g2 (dr_bin ga gb h1 h2 e1 e2 e3 e4) s2 n2 (kk.trans (k2.less kk.2.1)))
theorem dr3_ok {b : Bool} (hP : P[ip]? = some ⟨2, 4, csPick⟩) (hO : P[io]? = some ⟨2, 2, csOf ip⟩) (hfu : 100 < fu) (mn : m ≠ n) (mc : m ≠ c) (G : DrAt P fu id n c m many D) (hd : D + 10 ≤ d + 2) (hr : 3 ≤ room) (hr2 : room ≤ 1000) (hs : Src n c h) (hm : NmL h m) {s6 s7 s8 s9 s10 : Option PV} {T : Fl → Sg → EH → Prop} (hT : ∀ v s h, Q v h → T (.rt v) s h)
    (q : ∀ p h', Dr p many room (D + 1) → Src n c h' → NmL h' m → Kp [n, c, m] h.length h h' → Q (enc p) h') :
    Ss (run P fu (d + 2)) fu (dr3 id io ip) [some (.ref n), some (.int (many : Nat)), some (.int (room : Nat)), some (.bl b), some (.ref m), some (.int (D : Nat)), s6, s7, s8, s9, s10] h T := by
  rw [dr3, Ss_cons]
  simp
  refine ofN (d := d) hP hO hs (by simp) (by simp) hfu fun x g hx s1 k1 => ?_
  refine pick_ok (d := d + 1) hP s1 (by omega) (by omega) hfu fun v g2 v0 v1 s2 k2 => ?_
  simp only [bindAll, R_some, List.set_cons_succ, List.set_cons_zero]
  rw [o_add, show (1 + v) = ((1 + v.toNat : Nat) : Int) by omega]
  have nn : ∀ {k : Nat} {g g' : EH}, NmL g m → Kp [n, c] g.length g g' → NmL g' m := fun {k g g'} hm k => by
    obtain ⟨xs, e, a, b⟩ := hm
    exact ⟨xs, k.get e (get_lt e) (by simp; exact ⟨mn, mc⟩), a, b⟩
  have n1 := nn (k := 0) hm k1
  have n2 := nn (k := 0) n1 k2
  have kk : Kp [n, c, m] h.length h g2 := kMM (M := []) (k1.trans (k2.less k1.2.1))
  have go : ∀ {w : Str} {tb : Bool} {mk : Pt → Pt → Pt}, ckE (.str w) (.str "both") tb = true → (∀ a b, enc (mk a b) = .tup [.str w, enc a, enc b]) → (∀ a b, gp (mk a b) = (gp a && gp b) ∧ sgb many (mk a b) = (sgb many a && sgb many b) ∧ size (mk a b) = 1 + size a + size b ∧ dep (mk a b) = max (dep a) (dep b) + 1) →
      Ss (run P fu (d + 2)) fu (dr4 id) [some (.ref n), some (.int (many : Nat)), some (.int (room : Nat)), some (.bl b), some (.ref m), some (.int (D : Nat)), s6, some (.str w), s8, some (.int (1 + v.toNat : Nat)), s10] g2 T := fun h1 h2 h3 =>
    dr4_ok G hd (by omega) (by omega) hr2 s2 n2 hT h1 h2 h3 kk q
  simp at hx
  rcases hx with rfl | rfl | rfl
  · exact go (tb := false) (mk := .thn) (by decide +kernel) (fun _ _ => rfl) (fun _ _ => ⟨rfl, rfl, rfl, rfl⟩)
  · exact go (tb := false) (mk := .orr) (by decide +kernel) (fun _ _ => rfl) (fun _ _ => ⟨rfl, rfl, rfl, rfl⟩)
  · exact go (tb := true) (mk := .bth) (by decide +kernel) (fun _ _ => rfl) (fun _ _ => ⟨rfl, rfl, rfl, rfl⟩)
theorem drawn_ok (hP : P[ip]? = some ⟨2, 4, csPick⟩) (hO : P[io]? = some ⟨2, 2, csOf ip⟩) (hD : P[id]? = some ⟨6, 11, csDr id io ip⟩) (h1 : 1 ≤ many) (h2 : many ≤ 900) (hfu : 100 < fu) (mn : m ≠ n) (mc : m ≠ c) : ∀ D, DrAt P fu id n c m many D := by
  intro D
  induction D with
  | zero =>
    intro room b h d Q hd hr hs hm q
    obtain ⟨d, rfl⟩ : ∃ d', d = d' + 3 := ⟨d - 3, by omega⟩
    refine run_R hD rfl ?_
    rw [csDr, Ss_cons]
    simp
    refine pick_ok (d := d + 1) hP hs (by omega) (by omega) hfu fun v g v0 v1 s1 k1 => ?_
    simp only [bindAll, R_some, List.set_cons_succ, List.set_cons_zero]
    rw [dr1, Ss_cons]
    have leaf := dr1a_ok (d := d) (T := nxt (run P fu (d + 2)) fu (dr2 id io ip) (retQ Q)) hP hO h1 h2 hfu s1 (Q := Q) (fun v s h z => z) (s2 := some (.int (room : Nat))) (s3 := some (.bl b)) (s4 := some (.ref m)) (s5 := some (.int (0 - 1))) (s6 := some (.int v)) (s7 := none) (s8 := none) (s9 := none) (s10 := none) fun p g2 dp s2 k2 => by
      have kk := k1.trans (k2.less k1.2.1)
      obtain ⟨xs, e, a, b⟩ := hm
      exact q p g2 ⟨dp.dt, dp.sg, by have := dp.sz; omega, by have := dp.dp; omega⟩ s2 ⟨xs, kk.get e (get_lt e) (by simp; exact ⟨mn, mc⟩), a, b⟩ (kMM (M := []) kk)
    simp
    by_cases c1 : (room : Int) < 2
    · simp [c1]; exact leaf
    · by_cases c2 : v < 2
      · simp [c1, c2]; exact leaf
      · simp [c1, c2]; exact leaf
  | succ D ih =>
    intro room b h d Q hd hr hs hm q
    obtain ⟨d, rfl⟩ : ∃ d', d = d' + 3 := ⟨d - 3, by omega⟩
    refine run_R hD rfl ?_
    rw [csDr, Ss_cons]
    simp
    refine pick_ok (d := d + 1) hP hs (by omega) (by omega) hfu fun v g v0 v1 s1 k1 => ?_
    simp only [bindAll, R_some, List.set_cons_succ, List.set_cons_zero]
    rw [dr1, Ss_cons]
    have nm1 : NmL g m := by
      obtain ⟨xs, e, a, b⟩ := hm
      exact ⟨xs, k1.get e (get_lt e) (by simp; exact ⟨mn, mc⟩), a, b⟩
    have leaf := fun (s5 : Option PV) => dr1a_ok (d := d) (T := nxt (run P fu (d + 2)) fu (dr2 id io ip) (retQ Q)) hP hO h1 h2 hfu s1 (Q := Q) (fun v s h z => z) (s2 := some (.int (room : Nat))) (s3 := some (.bl b)) (s4 := some (.ref m)) (s5 := s5) (s6 := some (.int v)) (s7 := none) (s8 := none) (s9 := none) (s10 := none) fun p g2 dp s2 k2 => by
      have kk := k1.trans (k2.less k1.2.1)
      obtain ⟨xs, e, a, b⟩ := hm
      exact q p g2 ⟨dp.dt, dp.sg, by have := dp.sz; omega, by have := dp.dp; omega⟩ s2 ⟨xs, kk.get e (get_lt e) (by simp; exact ⟨mn, mc⟩), a, b⟩ (kMM (M := []) kk)
    have q2 : ∀ p h', Dr p many room (D + 1) → Src n c h' → NmL h' m → Kp [n, c, m] g.length g h' → Q (enc p) h' := fun p h' a b e k => q p h' a b e ((kMM (M := []) k1).trans (k.less k1.2.1))
    simp
    by_cases c1 : (room : Int) < 2
    · simp [c1]; exact leaf _
    · by_cases c2 : v < 2
      · simp [c1, c2]; exact leaf _
      · by_cases c3 : (D : Int) < 1
        · simp [c1, c2, c3]; exact leaf _
        · simp [c1, c2, c3]
          rw [dr2, Ss_cons]
          simp
          by_cases c4 : (room : Int) < 3
          · simp [c4]
            exact dr2a_ok (d := d) hP hO hfu mn mc ih (by omega) (by omega) hr s1 nm1 (fun v s h z => z) q2
          · by_cases c5 : v < 6
            · simp [c4, c5]
              exact dr2a_ok (d := d) hP hO hfu mn mc ih (by omega) (by omega) hr s1 nm1 (fun v s h z => z) q2
            · simp [c4, c5]
              exact dr3_ok (d := d) hP hO hfu mn mc ih (by omega) (by omega) hr s1 nm1 (fun v s h z => z) q2
end
end K01
end EV

set_option Elab.async false
set_option linter.all false
set_option maxRecDepth 100000
set_option maxHeartbeats 4000000
/-! K01i: sizes of what is made; what is shown. No program in sight. -/
namespace EV
open PySem PySem.Spec
namespace K01
open K28
theorem pl_ok (p : Pt) : size (pl p) ≤ size p ∧ dep (pl p) ≤ dep p ∧ (gp p = true → gp (pl p) = true) ∧ plain (pl p) = true := by
  induction p <;> simp_all [pl, size, dep, gp, plain, parts, bare] <;> omega
theorem mr_ok (p : Pt) : size (mr p) = size p ∧ dep (mr p) = dep p ∧ (gp p = true → gp (mr p) = true) ∧ mr (mr p) = p := by
  induction p <;> simp_all [mr, size, dep, gp] <;> omega
theorem ex_ok {o : List Nat} (ho : ∀ x ∈ o, x < 900) (p : Pt) : size (ex o p) = size p ∧ dep (ex o p) = dep p ∧ (gp p = true → sgb o.length p = true → gp (ex o p) = true) := by
  induction p
  case sgn s =>
    refine ⟨rfl, rfl, fun h1 h2 => ?_⟩
    simp [sgb] at h2
    simp only [ex, gp, decide_eq_true_eq]
    rw [List.getD_eq_getElem?_getD, List.getElem?_eq_getElem h2, Option.getD_some]
    have := ho _ (List.getElem_mem h2)
    omega
  all_goals simp_all [ex, size, dep, gp, sgb]
theorem takes_nm : ∀ {p : Pt}, gp p = true → (∀ x ∈ takesL p, nmOk x = true) ∧ (takesL p).length ≤ size p := by
  intro p
  induction p <;> simp_all [takesL, gp, size]
  case thn a b iha ihb => intro h1 h2; exact ⟨fun x hx => hx.elim ((iha h1).1 x) ((ihb h2).1 x), by have := (iha h1).2; have := (ihb h2).2; omega⟩
  case orr a b iha ihb => intro h1 h2; exact ⟨fun x hx => hx.elim ((iha h1).1 x) ((ihb h2).1 x), by have := (iha h1).2; have := (ihb h2).2; omega⟩
  case bth a b iha ihb => intro h1 h2; exact ⟨fun x hx => hx.elim ((iha h1).1 x) ((ihb h2).1 x), by have := (iha h1).2; have := (ihb h2).2; omega⟩
  case nt a ih => intro h; have := (ih h).2; omega
  case agn a ih => intro h; have := (ih h).2; omega
  case few a ih => intro h; have := (ih h).2; omega
  case tak x a ih => intro h1 h2; have := (ih h2).2; omega
theorem parts_gp {p q : Pt} (h : q ∈ parts p) : gp p = true → gp q = true ∧ size q ≤ size p := by
  induction p
  case non => simp [parts] at h; subst h; exact fun z => ⟨z, Nat.le_refl _⟩
  case emp => simp [parts] at h; subst h; exact fun z => ⟨z, Nat.le_refl _⟩
  case sgn => simp [parts] at h; subst h; exact fun z => ⟨z, Nat.le_refl _⟩
  case thn a b iha ihb =>
    intro z; have z' := z; simp [gp] at z'; simp [parts] at h
    rcases h with rfl | h | h
    · exact ⟨z, Nat.le_refl _⟩
    · have := iha h z'.1; exact ⟨this.1, by simp only [size]; omega⟩
    · have := ihb h z'.2; exact ⟨this.1, by simp only [size]; omega⟩
  case orr a b iha ihb =>
    intro z; have z' := z; simp [gp] at z'; simp [parts] at h
    rcases h with rfl | h | h
    · exact ⟨z, Nat.le_refl _⟩
    · have := iha h z'.1; exact ⟨this.1, by simp only [size]; omega⟩
    · have := ihb h z'.2; exact ⟨this.1, by simp only [size]; omega⟩
  case bth a b iha ihb =>
    intro z; have z' := z; simp [gp] at z'; simp [parts] at h
    rcases h with rfl | h | h
    · exact ⟨z, Nat.le_refl _⟩
    · have := iha h z'.1; exact ⟨this.1, by simp only [size]; omega⟩
    · have := ihb h z'.2; exact ⟨this.1, by simp only [size]; omega⟩
  case nt a ih =>
    intro z; simp [parts] at h
    rcases h with rfl | h
    · exact ⟨z, Nat.le_refl _⟩
    · have := ih h z; exact ⟨this.1, by simp only [size]; omega⟩
  case agn a ih =>
    intro z; simp [parts] at h
    rcases h with rfl | h
    · exact ⟨z, Nat.le_refl _⟩
    · have := ih h z; exact ⟨this.1, by simp only [size]; omega⟩
  case few a ih =>
    intro z; simp [parts] at h
    rcases h with rfl | h
    · exact ⟨z, Nat.le_refl _⟩
    · have := ih h z; exact ⟨this.1, by simp only [size]; omega⟩
  case tak x a ih =>
    intro z; have z' := z; simp [gp] at z'; simp [parts] at h
    rcases h with rfl | h
    · exact ⟨z, Nat.le_refl _⟩
    · have := ih h z'.2; exact ⟨this.1, by simp only [size]; omega⟩
structure Pg (p : Pt) : Prop where
  g : gp p = true
  s : size p ≤ 50
  d : dep p ≤ 20
section
variable {g : EH} {p : Pt} {r r1 r2 : Nat} {ps : List Pt}
theorem Pg.dat (x : Pg p) : Dat g 20 2000 (enc p) (datP p) := ((dat_enc p x.g).deep x.d).more (by have := x.s; omega)
theorem Pg.pl (x : Pg p) : Pg (pl p) := by obtain ⟨a, b, c, _⟩ := pl_ok p; exact ⟨c x.g, by have := x.s; omega, by have := x.d; omega⟩
theorem Pg.mr (x : Pg p) : Pg (mr p) := by obtain ⟨a, b, c, _⟩ := mr_ok p; exact ⟨c x.g, by have := x.s; omega, by have := x.d; omega⟩
theorem Pg.ex {o : List Nat} (x : Pg p) (ho : ∀ x ∈ o, x < 900) (hs : sgb o.length p = true) : Pg (ex o p) := by obtain ⟨a, b, c⟩ := ex_ok ho p; exact ⟨c x.g hs, by have := x.s; omega, by have := x.d; omega⟩
theorem Pg.part {q : Pt} (x : Pg p) (h : q ∈ parts p) : Pg q := by obtain ⟨a, b⟩ := parts_gp h x.g; exact ⟨a, by have := x.s; omega, by have := parts_dep h; have := x.d; omega⟩
def dPs (ps : List Pt) : PyData := .list (ps.map datP)
def dNs (ns : List Str) : PyData := .list (ns.map .str)
theorem dat_ps (e : g[r]? = some (.lst (ps.map enc))) (hp : ∀ p ∈ ps, Pg p) (hl : ps.length ≤ 60) : Dat g 21 130000 (.ref r) (dPs ps) :=
  (Dats.lst (Dats.map (b := 2000) fun p hm => (hp p hm).dat) e).more (by have : ps.length * 2001 ≤ 60 * 2001 := Nat.mul_le_mul_right _ hl; omega)
theorem dat_ns {ns : List Str} (e : g[r]? = some (.lst (ns.map PV.str))) (hn : ∀ x ∈ ns, nmOk x = true) (hl : ns.length ≤ 60) : Dat g 21 1300 (.ref r) (dNs ns) :=
  ((Dats.lst (nm_dats hn) e).deep (by omega)).more (by have : ns.length * 21 ≤ 60 * 21 := Nat.mul_le_mul_right _ hl; omega)
theorem dat_two {v w : PV} {a b : PyData} {m x y : Nat} (e : g[r]? = some (.lst [v, w])) (h1 : Dat g m x v a) (h2 : Dat g m y w b) : Dat g (m + 1) (x + y + 2) (.ref r) (.list [a, b]) :=
  (Dats.lst (Dats.cons h1 (Dats.cons h2 (Dats.nil (b := 0)))) e).more (by omega)
theorem dat_three {v w u : PV} {a b c : PyData} {m x y z : Nat} (e : g[r]? = some (.lst [v, w, u])) (h1 : Dat g m x v a) (h2 : Dat g m y w b) (h3 : Dat g m z u c) : Dat g (m + 1) (x + y + z + 3) (.ref r) (.list [a, b, c]) :=
  (Dats.lst (Dats.cons h1 (Dats.cons h2 (Dats.cons h3 (Dats.nil (b := 0))))) e).more (by omega)
end
end K01
end EV

set_option Elab.async false
set_option linter.all false
set_option maxRecDepth 100000
set_option maxHeartbeats 4000000
/-! K01j: what is asked of a pattern. -/
namespace EV
open PySem PySem.Spec
namespace K01
open K28
local macro_rules | `(tactic| decreasing_trivial) => `(tactic| (rw [w_in true]; rotate_left; focus (decide +kernel)))
local macro_rules | `(tactic| decreasing_trivial) => `(tactic| (rw [w_in false]; rotate_left; focus (decide +kernel)))
def pr11 : CSs := .cons (.ret (.and (.cmp .eq (.bi .repr (.cons (.lst (.cons (.call 8 (.cons (.idx (.var 6) (.lit (.int 1))) .nil)) (.cons (.call 4 (.cons (.idx (.var 6) (.lit (.int 0))) .nil)) .nil))) .nil)) (.bi .repr (.cons (.lst (.cons (.var 2) (.cons (.lit (.bl true)) .nil))) .nil))) (.cmp .eq (.bi .repr (.cons (.var 2) .nil)) (.var 5)))) .nil
def pr10a : CSs := .cons (.ret (.lit (.bl false))) .nil
def pr10 : CSs := .cons (.ifs (.cmp .ne (.bi .repr (.cons (.var 6) .nil)) (.bi .repr (.cons (.comp (.call 20 (.cons (.var 2) (.cons (.var 10) (.cons (.var 9) .nil)))) (.nm 10) (.rng (.cons (.lit (.int 3)) .nil)) (.lit (.bl true)) [10]) .nil))) pr10a .nil) pr11
def pr9 : CSs := .cons (.asg (.nm 6) (.lst (.cons (.call 7 (.cons (.var 2) .nil)) (.cons (.call 8 (.cons (.var 2) .nil)) (.cons (.call 9 (.cons (.var 2) (.cons (.var 9) .nil))) .nil))))) pr10
def pr8 : CSs := .cons (.asg (.nm 9) (.bi .tuple (.cons (.call 15 (.cons (.var 0) (.cons (.lstR (.cons (.var 1) .nil)) .nil))) .nil))) pr9
def pr7a : CSs := .cons (.ret (.lit (.bl false))) .nil
def pr7 : CSs := .cons (.ifs (.cmp .ne (.bi .repr (.cons (.lst (.cons (.call 4 (.cons (.var 2) .nil)) (.cons (.call 5 (.cons (.var 2) .nil)) .nil))) .nil)) (.bi .repr (.cons (.lst (.cons (.var 7) (.cons (.call 19 (.cons (.var 2) .nil)) .nil))) .nil))) pr7a .nil) pr8
def pr6 : CSs := .cons (.asg (.nm 7) (.cmp .eq (.comp (.var 8) (.nm 8) (.val (.var 3)) (.cmp .isIn (.idx (.var 8) (.lit (.int 0))) (.tup (.cons (.lit (.str "take")) (.cons (.lit (.str "few")) .nil)))) [8]) (.lst .nil))) pr7
def pr5a : CSs := .cons (.ret (.lit (.bl false))) .nil
def pr5 : CSs := .cons (.ifs (.cmp .ne (.bi .repr (.cons (.lst (.cons (.call 1 (.cons (.var 2) .nil)) (.cons (.call 3 (.cons (.var 2) .nil)) .nil))) .nil)) (.bi .repr (.cons (.lst (.cons (.var 3) (.cons (.var 4) .nil))) .nil))) pr5a .nil) pr6
def pr4 : CSs := .cons (.expr (.meth .append (.idx (.var 6) (.lit (.int 1))) (.cons (.lit .non) .nil))) pr5
def pr3 : CSs := .cons (.expr (.meth .append (.idx (.var 6) (.lit (.int 0))) (.cons (.lit .non) .nil))) pr4
def pr2a : CSs := .cons (.ret (.lit (.bl false))) .nil
def pr2 : CSs := .cons (.ifs (.cmp .ne (.bi .repr (.cons (.bin .add (.lst (.cons (.call 2 (.cons (.var 2) .nil)) .nil)) (.var 6)) .nil)) (.bi .repr (.cons (.lst (.cons (.bi .len (.cons (.var 3) .nil)) (.cons (.var 3) (.cons (.var 4) .nil)))) .nil))) pr2a .nil) pr3
def pr1 : CSs := .cons (.asg (.nm 6) (.lst (.cons (.call 1 (.cons (.var 2) .nil)) (.cons (.call 3 (.cons (.var 2) .nil)) .nil)))) pr2
def pr : CSs := .cons (.par [3, 4, 5] (.cons (.call 18 (.cons (.var 2) .nil)) (.cons (.call 21 (.cons (.var 2) .nil)) (.cons (.bi .repr (.cons (.var 2) .nil)) .nil)))) pr1
structure Txt (P : List Fn) : Prop where
  p0 : P[0]? = some ⟨1, 2, csInner⟩
  p1 : P[1]? = some ⟨1, 3, K28.csParts 0 1⟩
  p2 : P[2]? = some ⟨1, 1, csSize 1⟩
  p3 : P[3]? = some ⟨1, 2, csTakes 1⟩
  p4 : P[4]? = some ⟨1, 2, csPlain 1⟩
  p5 : P[5]? = some ⟨1, 4, csHas 0 5⟩
  p6 : P[6]? = some ⟨2, 5, csWith⟩
  p7 : P[7]? = some ⟨1, 3, csPld 0 7 6⟩
  p8 : P[8]? = some ⟨1, 3, csMir 0 8 6⟩
  p9 : P[9]? = some ⟨2, 3, csExc 0 9 6⟩
  p10 : P[10]? = some ⟨1, 3, csJoin⟩
  p11 : P[11]? = some ⟨1, 1, csRevH⟩
  p12 : P[12]? = some ⟨1, 3, csSource⟩
  p13 : P[13]? = some ⟨2, 4, csPick⟩
  p14 : P[14]? = some ⟨2, 2, csOf 13⟩
  p15 : P[15]? = some ⟨2, 4, K39.csMixed 13⟩
  p16 : P[16]? = some ⟨6, 11, csDr 16 14 13⟩
  p17 : P[17]? = some ⟨1, 2, csLIn⟩
  p18 : P[18]? = some ⟨1, 3, csLPa 17 18⟩
  p19 : P[19]? = some ⟨1, 5, csLHa 19 17⟩
  p20 : P[20]? = some ⟨3, 6, csCh 20 17⟩
  p21 : P[21]? = some ⟨1, 2, csTakes 18⟩
  p22 : P[22]? = some ⟨3, 11, pr⟩
  p23 : P[23]? = some ⟨3, 4, csDrawn 13⟩
section
variable {P : List Fn} {fu d : Nat} {n c many : Nat} {h g : EH} {Q : PV → EH → Prop} {D : Fl → Sg → EH → Prop} {p : Pt} {s0 s1 s3 s4 s5 s6 s7 s8 s9 s10 : Option PV}
theorem prt (X : Txt P) (hfu : 20000 < fu) (y : Pg p) (hd : 25 ≤ d) : ∀ (Q : PV → EH → Prop), (∀ r g, h.length ≤ r → g[r]? = some (.lst ((parts p).map enc)) → Kp [] h.length h g → Q (.ref r) g) → Rr (run P fu d 1 [enc p] h) Q :=
  fun Q q => K28.parts_ok X.p0 X.p1 (by omega) (dep p) p h d Q (Nat.le_refl _) (by have := y.d; omega) (by have := y.s; omega) q
theorem lprt (X : Txt P) (hfu : 20000 < fu) (y : Pg p) (hd : 25 ≤ d) : ∀ (Q : PV → EH → Prop), (∀ r g, h.length ≤ r → g[r]? = some (.lst ((parts p).map enc)) → Kp [] h.length h g → Q (.ref r) g) → Rr (run P fu d 18 [enc p] h) Q :=
  fun Q q => lparts_ok X.p17 X.p18 (by omega) (dep p) p h d Q (Nat.le_refl _) (by have := y.d; omega) (by have := y.s; omega) q
theorem pr11_ok {r6 : Nat} {o : List Nat} (X : Txt P) (hfu : 20000 < fu) (y : Pg p) (hd : 30 ≤ d) (hs : Src n c g) (ho : ∀ x ∈ o, x < 900) (hsg : sgb o.length p = true)
    (e6 : g[r6]? = some (.lst [enc (pl p), enc (mr p), enc (ex o p)])) (q : ∀ s g', Src n c g' → Kp [] g.length g g' → D (.rt (.bl true)) s g') :
    Ss (run P fu (d + 1)) fu pr11 [s0, s1, some (enc p), s3, s4, some (.str (datP p).shown), some (.ref r6), s7, s8, s9, s10] g D := by
  obtain ⟨_, _, _, mm⟩ := mr_ok p
  obtain ⟨_, _, _, pp⟩ := pl_ok p
  rw [pr11, Ss_cons]
  simp [x_lst e6, seqAt]
  refine mirrored_ok X.p0 X.p6 X.p8 (by omega) (dep (mr p)) (mr p) g (d + 1) _ (Nat.le_refl _) (by have := y.mr.d; omega) fun g1 k1 => ?_
  have e61 := k1.get e6 (get_lt e6) (by simp)
  simp [x_lst e61, seqAt]
  refine plain_ok (d := d) (prt X hfu y.pl (by omega)) X.p4 hfu (by have := y.pl.s; omega) fun g2 k2 => ?_
  rw [mm, pp]
  try simp
  have kk := k1.trans (k2.less k1.2.1)
  have t1 : ∀ g : EH, Dat g 20 2000 (.bl true) (.bool true) := fun g => Dat.bl
  have dd : ∀ g : EH, Dat (g ++ [EO.lst [enc p, .bl true]]) 21 3000 (.ref g.length) (.list [datP p, .bool true]) := fun g => (dat_two (y := 0) get_new y.dat Dat.bl).more (by omega)
  rw [(dd g2).repr (by omega) (by omega)]
  rw [(dd (g2 ++ [EO.lst [enc p, .bl true]])).repr (by omega) (by omega)]
  rw [c_eqSelf (dd g2).ok]
  simp
  rw [(y.dat).repr (by omega) (by omega), c_eqSelf (y.dat (g := g)).ok]
  refine q _ _ (skk hs (kk.trans ?_)) (kk.trans ?_)
  all_goals exact ⟨by have := kk.2.1; omega, by simp, fun m hm _ => by rw [List.getElem?_append_left (by have := kk.2.1; omega)]⟩
end
end K01
end EV

set_option Elab.async false
set_option linter.all false
set_option maxRecDepth 100000
set_option maxHeartbeats 4000000
/-! K39b: some last states, any table, rising tables. -/
namespace EV
open PySem PySem.Spec
section
variable {F : Ca} {fu : Nat} {s : Sg} {h : EH} {es : CEs} {Q : PV → EH → Prop}
@[simp] theorem E_tupR : E F fu (.tupR es) s h Q ↔ Es F fu es s h fun xs h1 => R (rangeOf xs) fun ys => Rr (newT ys h1) Q := by
  unfold E Es
  simp only [ev]
  cases evs F fu es s h with
  | none => simp only [R_none]
  | some x =>
    obtain ⟨x, h1⟩ := x
    simp only [R_some]
    cases rangeOf x <;> simp only [R_none, R_some]; exact Iff.rfl
@[simp] theorem E_lstR : E F fu (.lstR es) s h Q ↔ Es F fu es s h fun xs h1 => R (rangeOf xs) fun ys => Rr (newL ys h1) Q := by
  unfold E Es
  simp only [ev]
  cases evs F fu es s h with
  | none => simp only [R_none]
  | some x =>
    obtain ⟨x, h1⟩ := x
    simp only [R_some]
    cases rangeOf x <;> simp only [R_none, R_some]; exact Iff.rfl
end
namespace K39
open K59 (nl srt sorted_nl srt_mem srt_len)
section
variable {P : List Fn} {fu d ip io im is : Nat} {n c : Nat} {h : EH} {Q : PV → EH → Prop} {ks : List Nat} {r : Nat}
theorem perm_nats {ys : List PV} {ks : List Nat} (p : ys.Perm (ks.map fun (i : Nat) => PV.int i)) : ∃ js : List Nat, ys = (js.map fun (i : Nat) => PV.int i) ∧ js.Perm ks := by
  have e : ys = (ys.map fun (x : PV) => match x with | .int i => i.toNat | _ => 0).map fun (i : Nat) => PV.int i := by
    rw [List.map_map]
    have : ∀ y ∈ ys, ((fun (i : Nat) => PV.int i) ∘ fun (x : PV) => match x with | .int i => i.toNat | _ => 0) y = y := fun y hy => by
      obtain ⟨k, _, rfl⟩ := List.mem_map.mp (p.mem_iff.mp hy)
      simp
    rw [List.map_congr_left this]
    simp
  refine ⟨_, e, ?_⟩
  have p2 := p.map (fun (x : PV) => match x with | .int i => i.toNat | _ => 0)
  rw [List.map_map] at p2
  have e2 : ((fun (x : PV) => match x with | .int i => i.toNat | _ => 0) ∘ fun (i : Nat) => PV.int i) = id := by
    funext k
    simp
  rw [e2, List.map_id] at p2
  exact p2
theorem b_tupNl (e : h[r]? = some (nl ks)) : Rr (opBi .tuple [.ref r] h) Q ↔ Q (encH ks) h := b_tupR e
theorem some_ok {N : Nat} {N' : Int} (eN : N' = N) (hP : P[ip]? = some ⟨2, 4, csPick⟩) (hM : P[im]? = some ⟨2, 4, csMixed ip⟩) (hS : P[is]? = some ⟨2, 3, csSome ip im⟩) (hs : Src n c h) (hN : N ≤ 1000) (hfu : 100 < fu)
    (q : ∀ (ls : List Nat) g, (∀ x ∈ ls, x < N) → ls.length ≤ N → Src n c g → Kp [n, c] h.length h g → Q (encH ls) g) : Rr (run P fu (d + 3) is [.ref n, .int N'] h) Q := by
  subst eN
  refine run_R hS rfl ?_
  simp [csSome]
  rw [range1 (small_of (by omega) (by omega))]
  simp
  have e0 : rangeL 0 1 N = (List.range N).map fun (i : Nat) => PV.int i := rl_nat
  rw [e0]
  refine ⟨by simp; omega, ?_⟩
  refine mixed_ok (d := d) hP hM (Src.new hs) get_new (by simp; omega) hfu fun r ys g hr ey py sg kg => ?_
  obtain ⟨js, rfl, pj⟩ := perm_nats py
  have hl : js.length = N := by rw [pj.length_eq]; simp
  refine pick_ok (d := d + 1) hP sg (by split <;> omega) (by split <;> omega) hfu fun w g2 w0 w1 s2 k2 => ?_
  obtain ⟨u, v⟩ := hs.lt
  have hr0 : h.length + 1 ≤ r := by simpa using hr
  have ey2 := k2.get ey (get_lt ey) (by simp; omega)
  simp [partOf, opSl, ey2]
  have ec : cutP (js.map fun (i : Nat) => PV.int i) none (some (1 + w)) = (js.take (1 + w.toNat)).map fun (i : Nat) => PV.int i := by
    have : (1 : Int) + w = ((1 + w.toNat : Nat) : Int) := by omega
    rw [this, cut_take, List.map_take]
  rw [ec]
  have e3 : (g2 ++ [EO.lst ((js.take (1 + w.toNat)).map fun (i : Nat) => PV.int i)])[g2.length]? = some (nl (js.take (1 + w.toNat))) := get_new
  rw [sorted_nl e3, b_tupNl get_new]
  have kk : Kp [n, c] h.length h g2 := ((Kp.new (Nat.le_refl _)).trans (kg.less (by simp))).trans (k2.less (by have := kg.1; have := kg.2.1; simp at this; omega))
  refine q (srt (js.take (1 + w.toNat))) _ (fun x hx => ?_) ?_ (Src.new (Src.new s2)) ((kk.trans (Kp.new kk.2.1)).trans (Kp.new (by have := kk.2.1; simp; omega)))
  · have := pj.mem_iff.mp (List.mem_of_mem_take (srt_mem.mp hx))
    simpa using this
  · rw [srt_len, List.length_take]
    omega
/-- a row of draws -/
def RowOk (many N : Nat) (x : PV) : Prop := ∃ row : List Nat, x = encH row ∧ row.length = many ∧ ∀ y ∈ row, y < N
theorem any_ok {N many : Nat} {N' many' : Int} (eN : N' = N) (em : many' = many) (hP : P[ip]? = some ⟨2, 4, csPick⟩) (hA : P[is]? = some ⟨3, 5, csAny ip⟩) (hs : Src n c h) (hN : N ≤ 1000) (hN1 : 1 ≤ N) (hm : many ≤ 1000) (hfu : 100 < fu)
    (q : ∀ (T : List (List Nat)) g, T.length = N → (∀ r ∈ T, r.length = many ∧ ∀ y ∈ r, y < N) → Src n c g → Kp [n, c] h.length h g → Q (.tup (T.map encH)) g) : Rr (run P fu (d + 2) is [.ref n, .int N', .int many'] h) Q := by
  subst eN em
  refine run_R hA rfl ?_
  simp [csAny]
  rw [range1 (small_of (by omega) (by omega))]
  simp only [R_some, wipeE]
  refine Cp_gen [n, c] (fun i x g => RowOk many N x) (fun g => Src n c g ∧ Kp [n, c] h.length h g) (fun i x g g' a b => a) (by simp [rangeL_len]; omega) ⟨hs, Kp.refl (Nat.le_refl _)⟩ ?_ ?_
  · intro i y g hy ⟨sg, kg⟩
    simp
    rw [range1 (small_of (by omega) (by omega))]
    simp only [R_some, wipeE]
    have X := Cp_gen (F := run P fu (d + 1)) (fu := fu) (e := .call ip (.cons (.var 0) (.cons (.var 1) .nil))) (v := 3) (h := g) (ys := rangeL 0 1 (many : Int).toNat) (s := [some (.ref n), some (.int (N : Int)), some (.int (many : Int)), none, some y])
      (Qs := fun xs g' => Src n c g' ∧ Kp [n, c] g.length g g' ∧ xs.length = many ∧ ∃ row : List Nat, xs = (row.map fun (i : Nat) => PV.int i) ∧ ∀ y ∈ row, y < N)
      [n, c] (fun i x g => ∃ k : Nat, x = .int (k : Int) ∧ k < N) (fun g' => Src n c g' ∧ Kp [n, c] g.length g g') (fun i x g g' a b => a) (by simp [rangeL_len]; omega) ⟨sg, Kp.refl (Nat.le_refl _)⟩ (fun i y g2 hy ⟨s2, k2⟩ => by
        simp
        refine pick_ok (d := d) hP s2 (by omega) (by omega) hfu fun w g3 w0 w1 s3 k3 => ⟨⟨w.toNat, by congr 1; omega, by omega⟩, k3, s3, k2.trans (k3.less k2.2.1)⟩) fun xs g2 hl hp ⟨s2, k2⟩ => by
          refine ⟨s2, k2, by simpa [rangeL_len] using hl, xs.map fun x => match x with | .int i => i.toNat | _ => 0, ?_, ?_⟩
          · refine List.ext_getElem? fun i => ?_
            rw [List.map_map, List.getElem?_map]
            cases hx : xs[i]? with
            | none => rfl
            | some x =>
              obtain ⟨k, rfl, _⟩ := hp i x hx
              simp
          · intro y hy
            obtain ⟨x, hx, rfl⟩ := List.mem_map.mp hy
            obtain ⟨i, hi, e⟩ := List.getElem_of_mem hx
            obtain ⟨k, rfl, hk⟩ := hp i x (by rw [List.getElem?_eq_getElem hi, e])
            simpa using hk
    refine R.mono X fun r ⟨s2, k2, hl, row, e, hb⟩ => ?_
    rw [e] at hl ⊢
    rw [b_tupR get_new]
    exact ⟨⟨row, rfl, by simpa using hl, hb⟩, k2.trans (Kp.new k2.2.1), Src.new s2, (kg.trans (k2.less kg.2.1)).trans (Kp.new (by have := kg.2.1; have := k2.2.1; omega))⟩
  · intro xs g hl hp ⟨sg, kg⟩
    rw [b_tupR get_new]
    have : ∃ T : List (List Nat), xs = T.map encH ∧ ∀ r ∈ T, r.length = many ∧ ∀ y ∈ r, y < N := by
      clear hl
      induction xs with
      | nil => exact ⟨[], rfl, by simp⟩
      | cons x xs ih =>
        obtain ⟨row, e1, e2, e3⟩ := hp 0 x rfl
        obtain ⟨T, f1, f2⟩ := ih fun i y hy => hp (i + 1) y (by simpa using hy)
        refine ⟨row :: T, by rw [e1, f1]; rfl, fun r hr => ?_⟩
        rcases List.mem_cons.mp hr with z | z
        · subst z; exact ⟨e2, e3⟩
        · exact f2 r z
    obtain ⟨T, rfl, hT⟩ := this
    exact q T _ (by simpa [rangeL_len] using hl) hT (Src.new sg) (kg.trans (Kp.new kg.2.1))
end
end K39
end EV

set_option Elab.async false
set_option linter.all false
set_option maxRecDepth 100000
set_option maxHeartbeats 4000000
/-! K01k: what is asked of a pattern, on. -/
namespace EV
open PySem PySem.Spec
namespace K01
open K28
local macro_rules | `(tactic| decreasing_trivial) => `(tactic| (rw [w_in true]; rotate_left; focus (decide +kernel)))
local macro_rules | `(tactic| decreasing_trivial) => `(tactic| (rw [w_in false]; rotate_left; focus (decide +kernel)))
section
variable {P : List Fn} {fu d : Nat} {n c many : Nat} {h g : EH} {Q : PV → EH → Prop} {D : Fl → Sg → EH → Prop} {p : Pt} {s0 s1 s3 s4 s5 s6 s7 s8 s9 s10 : Option PV}
theorem kpn {g0 g1 : EH} {o : EO} (k : Kp [] g0.length g0 g1) : Kp [] g0.length g0 (g1 ++ [o]) := k.trans (Kp.new k.2.1)
theorem pr10_ok {r6 : Nat} {o : List Nat} (X : Txt P) (hfu : 20000 < fu) (y : Pg p) (hd : 30 ≤ d) (hs : Src n c g) (ho : ∀ x ∈ o, x < 900) (hsg : sgb o.length p = true)
    (e6 : g[r6]? = some (.lst [enc (pl p), enc (mr p), enc (ex o p)])) (q : ∀ s g', Src n c g' → Kp [] g.length g g' → D (.rt (.bl true)) s g') :
    Ss (run P fu (d + 1)) fu pr10 [s0, s1, some (enc p), s3, s4, some (.str (datP p).shown), some (.ref r6), s7, s8, some (encH o), s10] g D := by
  have dd : ∀ (g : EH) (r : Nat), g[r]? = some (.lst [enc (pl p), enc (mr p), enc (ex o p)]) → Dat g 21 7000 (.ref r) (.list [datP (pl p), datP (mr p), datP (ex o p)]) := fun g r e => (dat_three e y.pl.dat y.mr.dat (y.ex ho hsg).dat).more (by omega)
  rw [pr10, Ss_cons]
  simp
  rw [(dd g r6 e6).repr (by omega) (by omega), range1 (by decide)]
  simp only [R_some, Cp_S]
  have ch := fun (w : Nat) (w' : Int) (ew : w' = w) (hw : w < 3) (g : EH) (Q : PV → EH → Prop) => changed_ok (P := P) (fu := fu) (ic := 20) (ii := 17) (w := w) (w' := w') (o := o) ew hw X.p17 X.p20 (by omega) (dep p) p g (d + 1) Q (Nat.le_refl _) (by have := y.d; omega) hsg
  have e0 : rangeL 0 1 (3 : Int).toNat = [.int 0, .int 1, .int 2] := by decide
  rw [e0]
  simp [CpS_cons, CpS_nil, wipeE, bindT]
  refine ch 0 0 rfl (by omega) g _ fun g1 k1 => ?_
  refine ch 1 1 rfl (by omega) g1 _ fun g2 k2 => ?_
  refine ch 2 2 rfl (by omega) g2 _ fun g3 k3 => ?_
  have kk := (k1.trans (k2.less k1.2.1)).trans (k3.less (by have := k1.2.1; have := k2.2.1; omega))
  rw [(dd (g3 ++ [EO.lst [enc (chg o 0 p), enc (chg o 1 p), enc (chg o 2 p)]]) g3.length get_new).repr (by omega) (by omega)]
  rw [c_neSelf (dd g r6 e6).ok]
  simp
  have e63 := kk.get e6 (get_lt e6) (by simp)
  have k4 := kpn (o := EO.lst [enc (chg o 0 p), enc (chg o 1 p), enc (chg o 2 p)]) kk
  exact pr11_ok X hfu y hd (skk hs k4) ho hsg (k4.get e6 (get_lt e6) (by simp)) fun s g' s' k' => q s g' s' (k4.trans (k'.less k4.2.1))
theorem pr9_ok {o : List Nat} (X : Txt P) (hfu : 20000 < fu) (y : Pg p) (hd : 30 ≤ d) (hs : Src n c g) (ho : ∀ x ∈ o, x < 900) (hsg : sgb o.length p = true)
    (q : ∀ s g', Src n c g' → Kp [] g.length g g' → D (.rt (.bl true)) s g') :
    Ss (run P fu (d + 1)) fu pr9 [s0, s1, some (enc p), s3, s4, some (.str (datP p).shown), s6, s7, s8, some (encH o), s10] g D := by
  rw [pr9, Ss_cons]
  simp
  refine plained_ok X.p0 X.p6 X.p7 (by omega) (dep p) p g (d + 1) _ (Nat.le_refl _) (by have := y.d; omega) fun g1 k1 => ?_
  refine mirrored_ok X.p0 X.p6 X.p8 (by omega) (dep p) p g1 (d + 1) _ (Nat.le_refl _) (by have := y.d; omega) fun g2 k2 => ?_
  refine exchanged_ok (o := o) X.p0 X.p6 X.p9 (by omega) (dep p) p g2 (d + 1) _ (Nat.le_refl _) (by have := y.d; omega) hsg fun g3 k3 => ?_
  have kk := (k1.trans (k2.less k1.2.1)).trans (k3.less (by have := k1.2.1; have := k2.2.1; omega))
  have k4 := kpn (o := EO.lst [enc (pl p), enc (mr p), enc (ex o p)]) kk
  exact pr10_ok X hfu y hd (skk hs k4) ho hsg get_new fun s g' s' k' => q s g' s' (k4.trans (k'.less k4.2.1))
theorem pr8_ok (X : Txt P) (hfu : 20000 < fu) (y : Pg p) (hd : 30 ≤ d) (hs : Src n c g) (hm : many ≤ 900) (hsg : sgb many p = true)
    (q : ∀ s g', Src n c g' → Kp [n, c] g.length g g' → D (.rt (.bl true)) s g') :
    Ss (run P fu (d + 1)) fu pr8 [some (.ref n), some (.int (many : Nat)), some (enc p), s3, s4, some (.str (datP p).shown), s6, s7, s8, s9, s10] g D := by
  obtain ⟨d, rfl⟩ : ∃ d', d = d' + 1 := ⟨d - 1, by omega⟩
  rw [pr8, Ss_cons]
  simp
  rw [range1 (small_of (by omega) (by omega))]
  simp only [R_some, Rr_newL, rangeL_len]
  refine ⟨by (try rw [sz]); omega, ?_⟩
  have e0 : rangeL 0 1 ((many : Nat) : Int).toNat = (List.range many).map fun (i : Nat) => PV.int i := by
    rw [Int.toNat_natCast]; exact K39.rl_nat
  rw [e0]
  refine K39.mixed_ok (d := d) X.p13 X.p15 (K39.Src.new hs) get_new (by simp; omega) (by omega) fun r ys g2 hr e2 pm s2 k2 => ?_
  have hys : ∃ o : List Nat, ys = o.map (fun (i : Nat) => PV.int i) ∧ o.length = many ∧ ∀ x ∈ o, x < many := by
    have hl := pm.length_eq
    simp at hl
    have : ∀ x ∈ ys, ∃ k : Nat, k < many ∧ x = .int (k : Nat) := fun x hx => by
      have := pm.mem_iff.mp hx
      simp at this
      obtain ⟨k, a, b⟩ := this
      exact ⟨k, a, b.symm⟩
    clear pm e2
    have gen : ∀ ys : List PV, (∀ x ∈ ys, ∃ k : Nat, k < many ∧ x = .int (k : Nat)) → ∃ o : List Nat, ys = o.map (fun (i : Nat) => PV.int i) ∧ ∀ x ∈ o, x < many := fun ys => by
      induction ys with
      | nil => exact fun _ => ⟨[], rfl, by simp⟩
      | cons z zs ih =>
        intro hz
        obtain ⟨k, a, rfl⟩ := hz z List.mem_cons_self
        obtain ⟨o, rfl, b⟩ := ih fun x hx => hz x (List.mem_cons_of_mem _ hx)
        exact ⟨k :: o, rfl, by simp; exact ⟨a, b⟩⟩
    obtain ⟨o, rfl, b⟩ := gen ys this
    exact ⟨o, rfl, by simpa using hl, b⟩
  obtain ⟨o, rfl, lo, bo⟩ := hys
  rw [b_tupR e2]
  try simp
  have k1 : Kp [n, c] g.length g g2 := (Kp.new (Nat.le_refl _)).trans (k2.less (by simp))
  exact pr9_ok (o := o) X hfu y hd s2 (fun x hx => by have := bo x hx; omega) (by rw [lo]; exact hsg) fun s g' s' k' => q s g' s' (k1.trans ((k'.less k1.2.1).more (by simp)))
theorem pr7_ok (X : Txt P) (hfu : 20000 < fu) (y : Pg p) (hd : 30 ≤ d) (hs : Src n c g) (hm : many ≤ 900) (hsg : sgb many p = true)
    (q : ∀ s g', Src n c g' → Kp [n, c] g.length g g' → D (.rt (.bl true)) s g') :
    Ss (run P fu (d + 1)) fu pr7 [some (.ref n), some (.int (many : Nat)), some (enc p), s3, s4, some (.str (datP p).shown), s6, some (.bl (plain p)), s8, s9, s10] g D := by
  rw [pr7, Ss_cons]
  simp
  refine plain_ok (d := d) (prt X hfu y (by omega)) X.p4 hfu (by have := y.s; omega) fun g1 k1 => ?_
  refine has_ok X.p0 X.p5 (by omega) (dep p) p g1 (d + 1) _ (Nat.le_refl _) (by have := y.d; omega) fun g2 k2 => ?_
  have dd : ∀ g : EH, Dat (g ++ [EO.lst [.bl (plain p), .bl (hasE p)]]) 21 3000 (.ref g.length) (.list [.bool (plain p), .bool (hasE p)]) := fun g => (dat_two (m := 20) (x := 0) (y := 0) get_new Dat.bl Dat.bl).more (by omega)
  rw [(dd g2).repr (by omega) (by omega)]
  refine lhas_ok X.p17 X.p19 (by omega) (dep p) p _ (d + 1) _ (Nat.le_refl _) (by have := y.d; omega) fun g3 k3 => ?_
  rw [(dd g3).repr (by omega) (by omega), c_neSelf (dd g2).ok]
  try simp
  have kk := k1.trans (k2.less k1.2.1)
  have k4 := kpn (o := EO.lst [.bl (plain p), .bl (hasE p)]) kk
  have k5 := kpn (o := EO.lst [.bl (plain p), .bl (hasE p)]) (k4.trans (k3.less k4.2.1))
  exact pr8_ok X hfu y hd (skk hs k5) hm hsg fun s g' s' k' => q s g' s' ((k5.more (by simp)).trans (k'.less k5.2.1))
theorem pr6_ok {ra : Nat} (X : Txt P) (hfu : 20000 < fu) (y : Pg p) (hd : 30 ≤ d) (hs : Src n c g) (hm : many ≤ 900) (hsg : sgb many p = true) (ea : g[ra]? = some (.lst ((parts p).map enc)))
    (q : ∀ s g', Src n c g' → Kp [n, c] g.length g g' → D (.rt (.bl true)) s g') :
    Ss (run P fu (d + 1)) fu pr6 [some (.ref n), some (.int (many : Nat)), some (enc p), some (.ref ra), s4, some (.str (datP p).shown), s6, s7, s8, s9, s10] g D := by
  rw [pr6, Ss_cons]
  simp only [S_nm, E_cmp, E_comp, Ei_val, E_var, E_lst, Es_nil]
  refine ⟨_, rfl, ?_⟩
  simp only [itrOf, ea]
  have hl := parts_len p
  have ys := y.s
  refine Cp_fm (g := fun c => if bare c = true then some (enc c) else none) ea (by omega) (by omega) (fun z hz => ?_) ?_
  · cases z <;> simp [wipeE, enc, seqAt, bare] <;> decreasing_trivial <;> simp
  · have e2 : (parts p).filterMap (fun c => if bare c = true then some (enc c) else none) = ((parts p).filter bare).map enc := by
      generalize parts p = l
      induction l with
      | nil => rfl
      | cons a l ih =>
        rw [List.filterMap_cons, List.filter_cons]
        cases bare a <;> simp [ih]
    rw [e2, Rr_newL]
    refine ⟨by rw [sz]; simp, ?_⟩
    have fl : ((parts p).filter bare).length ≤ 60 := Nat.le_trans (List.length_filter_le _ _) (by omega)
    have dl := dat_ps (g := g ++ [EO.lst (((parts p).filter bare).map enc)] ++ [EO.lst []]) (r := g.length) (ps := (parts p).filter bare) (by simp) (fun z hz => y.part (List.mem_filter.mp hz).1) fl
    have d0 : Dat (g ++ [EO.lst (((parts p).filter bare).map enc)] ++ [EO.lst []]) 1 0 (.ref (g ++ [EO.lst (((parts p).filter bare).map enc)]).length) (.list []) := lst0 get_new
    simp only [opC, eqD_of dl d0 (by omega) (by omega), R_some]
    have eb : PyData.eqv (dPs ((parts p).filter bare)) (.list []) = plain p := by
      unfold plain dPs
      generalize parts p = l
      induction l with
      | nil => rfl
      | cons a l ih =>
        rw [List.filter_cons, List.all_cons]
        cases bare a
        · simpa using ih
        · simp [PyData.eqv, PyData.eqvAll]
    rw [eb, nxt_nx]
    have k1 : Kp [] g.length g (g ++ [EO.lst (((parts p).filter bare).map enc)] ++ [EO.lst []]) := kpn (kpn (Kp.refl (Nat.le_refl _)))
    exact pr7_ok X hfu y hd (skk hs k1) hm hsg fun s g' s' k' => q s g' s' ((k1.more (by simp)).trans (k'.less k1.2.1))
end
end K01
end EV

set_option Elab.async false
set_option linter.all false
set_option maxRecDepth 100000
set_option maxHeartbeats 4000000
/-! K01l: what is asked of a pattern, whole. -/
namespace EV
open PySem PySem.Spec
namespace K01
open K28
section
variable {P : List Fn} {fu d : Nat} {n c many ra rb rc rd r6 : Nat} {h g : EH} {Q : PV → EH → Prop} {D : Fl → Sg → EH → Prop} {p : Pt} {s0 s1 s3 s4 s5 s6 s7 s8 s9 s10 : Option PV}
def paE (p : Pt) : EO := .lst ((parts p).map enc)
def tkE (p : Pt) : EO := .lst ((takesL p).map PV.str)
theorem dat_pt (y : Pg p) (ea : g[ra]? = some (paE p)) (eb : g[rb]? = some (tkE p)) {r : Nat} (e : g[r]? = some (.lst [.ref ra, .ref rb])) : Dat g 22 140000 (.ref r) (.list [dPs (parts p), dNs (takesL p)]) :=
  (dat_two e (dat_ps ea (fun z hz => y.part hz) (by rw [parts_len]; have := y.s; omega)) (dat_ns eb (takes_nm y.g).1 (by have := (takes_nm y.g).2; have := y.s; omega))).more (by omega)
theorem dat_ipt {k : Nat} (hk : k ≤ 1000) (y : Pg p) (ea : g[ra]? = some (paE p)) (eb : g[rb]? = some (tkE p)) {r : Nat} (e : g[r]? = some (.lst [.int (k : Nat), .ref ra, .ref rb])) : Dat g 22 140000 (.ref r) (.list [.int (k : Nat), dPs (parts p), dNs (takesL p)]) :=
  (dat_three (x := 0) e (dI (by omega)) (dat_ps ea (fun z hz => y.part hz) (by rw [parts_len]; have := y.s; omega)) (dat_ns eb (takes_nm y.g).1 (by have := (takes_nm y.g).2; have := y.s; omega))).more (by omega)
theorem pr5_ok (X : Txt P) (hfu : 20000 < fu) (y : Pg p) (hd : 30 ≤ d) (hs : Src n c g) (hm : many ≤ 900) (hsg : sgb many p = true) (ea : g[ra]? = some (paE p)) (eb : g[rb]? = some (tkE p))
    (q : ∀ s g', Src n c g' → Kp [n, c] g.length g g' → D (.rt (.bl true)) s g') :
    Ss (run P fu (d + 1)) fu pr5 [some (.ref n), some (.int (many : Nat)), some (enc p), some (.ref ra), some (.ref rb), some (.str (datP p).shown), s6, s7, s8, s9, s10] g D := by
  rw [pr5, Ss_cons]
  simp
  refine prt X hfu y (by omega) _ fun r1 g1 hr1 e1 k1 => ?_
  refine takes_ok (d := d) (prt X hfu y (by omega)) X.p3 hfu (by have := y.s; omega) fun r2 g2 hr2 e2 k2 => ?_
  have kk := k1.trans (k2.less k1.2.1)
  have e12 := k2.get e1 (get_lt e1) (by simp)
  have l1 := get_lt e12
  have l2 := get_lt e2
  have ea2 := kk.get ea (get_lt ea) (by simp)
  have eb2 := kk.get eb (get_lt eb) (by simp)
  have up : ∀ {g : EH} {o o2 : EO} {r : Nat}, g[r]? = some o → (g ++ [o2])[r]? = some o := fun e => by rw [List.getElem?_append_left (get_lt e)]; exact e
  have d1 := dat_pt (g := g2 ++ [EO.lst [.ref r1, .ref r2]]) (r := g2.length) y (up (o := paE p) e12) (up (o := tkE p) e2) get_new
  rw [d1.repr (by omega) (by omega)]
  have d2 := dat_pt (g := g2 ++ [EO.lst [.ref r1, .ref r2]] ++ [EO.lst [.ref ra, .ref rb]]) (r := (g2 ++ [EO.lst [.ref r1, .ref r2]]).length) y (up (o := paE p) (up ea2)) (up (o := tkE p) (up eb2)) get_new
  rw [d2.repr (by omega) (by omega), c_neSelf d1.ok]
  simp only [Bool.false_eq_true, if_false]
  have k4 := kpn (o := EO.lst [.ref ra, .ref rb]) (kpn (o := EO.lst [.ref r1, .ref r2]) kk)
  exact pr6_ok X hfu y hd (skk hs k4) hm hsg (up (o := paE p) (up ea2)) fun s g' s' k' => q s g' s' ((k4.more (by simp)).trans (k'.less k4.2.1))
theorem pr3_ok (X : Txt P) (hfu : 20000 < fu) (y : Pg p) (hd : 30 ≤ d) (hs : Src n c g) (hm : many ≤ 900) (hsg : sgb many p = true) (ea : g[ra]? = some (paE p)) (eb : g[rb]? = some (tkE p))
    (ec : g[rc]? = some (paE p)) (ed : g[rd]? = some (tkE p)) (e6 : g[r6]? = some (.lst [.ref rc, .ref rd])) (h1 : h.length ≤ rc) (h2 : h.length ≤ rd) (h3 : rc < rd) (h4 : rd < r6) (h5 : ra < rc) (h6 : rb < rc) (hn : n < h.length) (hc : c < h.length) (k0 : Kp [n, c] h.length h g)
    (q : ∀ s g', Src n c g' → Kp [n, c] h.length h g' → D (.rt (.bl true)) s g') :
    Ss (run P fu (d + 1)) fu pr3 [some (.ref n), some (.int (many : Nat)), some (enc p), some (.ref ra), some (.ref rb), some (.str (datP p).shown), some (.ref r6), s7, s8, s9, s10] g D := by
  have lp : (parts p).length ≤ 60 := by rw [parts_len]; have := y.s; omega
  have lt := (takes_nm y.g).2
  have ys := y.s
  rw [pr3, Ss_cons]
  simp [x_lst e6, seqAt, k_lst (show g[rc]? = some (.lst ((parts p).map enc)) from ec)]
  rw [m_append (show g[rc]? = some (.lst ((parts p).map enc)) from ec) (by rw [sz]; simp; omega)]
  rw [pr4, Ss_cons]
  have e61 : (g.set rc (.lst ((parts p).map enc ++ [.non])))[r6]? = some (.lst [.ref rc, .ref rd]) := by rw [List.getElem?_set_ne (by omega)]; exact e6
  have ed1 : (g.set rc (.lst ((parts p).map enc ++ [.non])))[rd]? = some (.lst ((takesL p).map PV.str)) := by rw [List.getElem?_set_ne (by omega)]; exact ed
  simp [x_lst e61, seqAt, k_lst ed1]
  rw [m_append ed1 (by rw [sz]; simp; omega)]
  have k1 : Kp [n, c] h.length h (g.set rc (.lst ((parts p).map enc ++ [.non]))) := k0.trans (Kp.set k0.2.1 (.inr h1))
  have k2 : Kp [n, c] h.length h ((g.set rc (.lst ((parts p).map enc ++ [.non]))).set rd (.lst ((takesL p).map PV.str ++ [.non]))) := k1.trans (Kp.set k1.2.1 (.inr h2))
  have s2 : Src n c ((g.set rc (.lst ((parts p).map enc ++ [.non]))).set rd (.lst ((takesL p).map PV.str ++ [.non]))) := by
    obtain ⟨us, l, mm, tt, z⟩ := hs
    refine ⟨us, l, mm, tt, z.keep ?_ ?_⟩
    · rw [List.getElem?_set_ne (by omega), List.getElem?_set_ne (by omega)]
    · rw [List.getElem?_set_ne (by omega), List.getElem?_set_ne (by omega)]
  refine pr5_ok X hfu y hd s2 hm hsg (ra := ra) (rb := rb) ?_ ?_ fun s g' s' k' => q s g' s' (k2.trans (k'.less k2.2.1))
  · rw [List.getElem?_set_ne (by omega), List.getElem?_set_ne (by omega)]; exact ea
  · rw [List.getElem?_set_ne (by omega), List.getElem?_set_ne (by omega)]; exact eb
theorem right_ok (X : Txt P) (hfu : 20000 < fu) (y : Pg p) (hd : 30 ≤ d) (hs : Src n c h) (hm : many ≤ 900) (hsg : sgb many p = true)
    (q : ∀ g', Src n c g' → Kp [n, c] h.length h g' → Q (.bl true) g') : Rr (run P fu (d + 2) 22 [.ref n, .int (many : Nat), enc p] h) Q := by
  refine run_R X.p22 rfl ?_
  have lt := hs.lt
  have ysz := y.s
  have up : ∀ {g : EH} {o o2 : EO} {r : Nat}, g[r]? = some o → (g ++ [o2])[r]? = some o := fun e => by rw [List.getElem?_append_left (get_lt e)]; exact e
  rw [pr, Ss_cons]
  simp
  refine lprt X hfu y (by omega) _ fun ra g1 ha ea k1 => ?_
  refine takes_ok (d := d) (lprt X hfu y (by omega)) X.p21 hfu (by omega) fun rb g2 hb eb k2 => ?_
  rw [y.dat.repr (by omega) (by omega)]
  simp only [bindAll, R_some, List.set_cons_succ, List.set_cons_zero]
  have k12 := k1.trans (k2.less k1.2.1)
  have ea2 := k2.get ea (get_lt ea) (by simp)
  rw [pr1, Ss_cons]
  simp
  refine prt X hfu y (by omega) _ fun rc g3 hc ec k3 => ?_
  refine takes_ok (d := d) (prt X hfu y (by omega)) X.p3 hfu (by omega) fun rd g4 hd4 ed k4 => ?_
  have k34 := k3.trans (k4.less k3.2.1)
  have ec4 := k4.get ec (get_lt ec) (by simp)
  have ea4 := k34.get ea2 (get_lt ea2) (by simp)
  have eb4 := k34.get eb (get_lt eb) (by simp)
  have k14 := k12.trans (k34.less k12.2.1)
  have k5 := kpn (o := EO.lst [.ref rc, .ref rd]) k14
  have r1 := get_lt ea
  have r2 := get_lt eb
  have r3 := get_lt ec
  have r4 := get_lt ed
  have len3 := k3.2.1
  have len2 := k2.2.1
  have len1 := k1.2.1
  have len4 := k4.2.1
  rw [pr2, Ss_cons]
  simp
  refine size_ok X.p0 X.p1 X.p2 (by omega) (by have := y.d; omega) (by omega) fun g5 k6 => ?_
  have kk := k5.trans (k6.less k5.2.1)
  have e6 := k6.get (get_new (h := g4) (o := EO.lst [.ref rc, .ref rd])) (by simp) (by simp)
  have ec6 := k6.get (up (o2 := EO.lst [.ref rc, .ref rd]) ec4) (by simp; omega) (by simp)
  have ed6 := k6.get (up (o2 := EO.lst [.ref rc, .ref rd]) ed) (by simp; omega) (by simp)
  have ea6 := k6.get (up (o2 := EO.lst [.ref rc, .ref rd]) ea4) (by simp; omega) (by simp)
  have eb6 := k6.get (up (o2 := EO.lst [.ref rc, .ref rd]) eb4) (by simp; omega) (by simp)
  rw [o_addLL (xs := [.int (size p : Nat)]) (ys := [.ref rc, .ref rd]) get_new (up e6) (by simp)]
  have d1 := dat_ipt (k := size p) (g := g5 ++ [EO.lst [.int (size p : Nat)]] ++ [EO.lst ([.int (size p : Nat)] ++ [.ref rc, .ref rd])]) (r := (g5 ++ [EO.lst [.int (size p : Nat)]]).length) (by omega) y (up (o := paE p) (up ec6)) (up (o := tkE p) (up ed6)) get_new
  rw [d1.repr (by omega) (by omega)]
  rw [b_lenR (xs := (parts p).map enc) (up (up ea6))]
  rw [List.length_map, parts_len]
  have d2 := dat_ipt (k := size p) (g := g5 ++ [EO.lst [.int (size p : Nat)]] ++ [EO.lst ([.int (size p : Nat)] ++ [.ref rc, .ref rd])] ++ [EO.lst [.int (size p : Nat), .ref ra, .ref rb]]) (r := (g5 ++ [EO.lst [.int (size p : Nat)]] ++ [EO.lst ([.int (size p : Nat)] ++ [.ref rc, .ref rd])]).length) (by omega) y (up (o := paE p) (up (up ea6))) (up (o := tkE p) (up (up eb6))) get_new
  rw [d2.repr (by omega) (by omega), c_neSelf d1.ok]
  simp only [Bool.false_eq_true, if_false, Ss_nil, nxt_nx]
  have k7 := kpn (o := EO.lst [.int (size p : Nat), .ref ra, .ref rb]) (kpn (o := EO.lst ([.int (size p : Nat)] ++ [.ref rc, .ref rd])) (kpn (o := EO.lst [.int (size p : Nat)]) kk))
  refine pr3_ok (h := h) X hfu y (by omega) (skk hs k7) hm hsg (up (o := paE p) (up (up ea6))) (up (o := tkE p) (up (up eb6))) (up (o := paE p) (up (up ec6))) (up (o := tkE p) (up (up ed6))) (up (up (up e6))) (by omega) (by omega) (by omega) (by omega) (by omega) (by omega) lt.1 lt.2 (k7.more (by simp)) fun s g' s' k' => ?_
  exact q g' s' k'
end
end K01
end EV

set_option Elab.async false
set_option linter.all false
set_option maxRecDepth 100000
set_option maxHeartbeats 4000000
/-! K01m: the law. -/
namespace EV
open PySem PySem.Spec
namespace K01
open K28
def la5 : CSs := .cons (.ret (.cmp .eq (.bi .repr (.cons (.var 11) .nil)) (.bi .repr (.cons (.var 12) .nil)))) .nil
def la4 : CSs := .cons (.asg (.nm 12) (.lst (.cons (.tup (.cons (.lit (.str "then")) (.cons (.tup (.cons (.lit (.str "again")) (.cons (.tup (.cons (.lit (.str "sign")) (.cons (.lit (.int 0)) .nil))) .nil))) (.cons (.idx (.var 10) (.lit (.int 2))) .nil)))) (.cons (.tup (.cons (.lit (.str "then")) (.cons (.idx (.var 10) (.lit (.int 2))) (.cons (.idx (.var 10) (.lit (.int 1))) .nil)))) (.cons (.lit (.int 9)) (.cons (.lit (.bl false)) .nil)))))) la5
def la3 : CSs := .cons (.asg (.nm 11) (.lst (.cons (.call 7 (.cons (.var 10) .nil)) (.cons (.call 8 (.cons (.var 10) .nil)) (.cons (.call 2 (.cons (.var 10) .nil)) (.cons (.call 5 (.cons (.var 10) .nil)) .nil)))))) la4
def la2 : CSs := .cons (.asg (.nm 10) (.tup (.cons (.lit (.str "then")) (.cons (.tup (.cons (.lit (.str "take")) (.cons (.lit (.str "x")) (.cons (.tup (.cons (.lit (.str "few")) (.cons (.tup (.cons (.lit (.str "sign")) (.cons (.lit (.int 0)) .nil))) .nil))) .nil)))) (.cons (.tup (.cons (.lit (.str "not")) (.cons (.tup (.cons (.lit (.str "both")) (.cons (.tup (.cons (.lit (.str "empty")) .nil)) (.cons (.tup (.cons (.lit (.str "again")) (.cons (.tup (.cons (.lit (.str "none")) .nil)) .nil))) .nil)))) .nil))) .nil))))) la3
def la1f7a : CSs := .cons (.ret (.lit (.bl false))) .nil
def la1f7 : CSs := .cons (.ifs (.cmp .ne (.bi .repr (.cons (.comp (.call 11 (.cons (.var 9) .nil)) (.nm 9) (.val (.var 6)) (.lit (.bl true)) [9]) .nil)) (.bi .repr (.cons (.comp (.rev (.var 9)) (.nm 9) (.val (.var 6)) (.lit (.bl true)) [9]) .nil))) la1f7a .nil) .nil
def la1f6a : CSs := .cons (.ret (.lit (.bl false))) .nil
def la1f6 : CSs := .cons (.ifs (.cmp .ne (.bi .repr (.cons (.lst (.cons (.call 10 (.cons (.var 6) .nil)) (.cons (.call 10 (.cons (.bi .tuple (.cons (.var 6) .nil)) .nil)) .nil))) .nil)) (.bi .repr (.cons (.lst (.cons (.var 8) (.cons (.var 8) .nil))) .nil))) la1f6a .nil) la1f7
def la1f5f : CSs := .cons (.asg (.nm 8) (.bin .add (.var 8) (.var 9))) .nil
def la1f5 : CSs := .cons (.frr (.nm 9) (.val (.var 6)) la1f5f) la1f6
def la1f4 : CSs := .cons (.asg (.nm 8) (.tup .nil)) la1f5
def la1f3 : CSs := .cons (.asg (.nm 6) (.comp (.call 23 (.cons (.var 1) (.cons (.var 3) (.cons (.call 14 (.cons (.var 1) (.cons (.lst (.cons (.lit (.int 0)) (.cons (.lit (.int 3)) (.cons (.lit (.int 60)) .nil)))) .nil))) .nil)))) (.nm 7) (.rng (.cons (.call 13 (.cons (.var 1) (.cons (.lit (.int 4)) .nil))) .nil)) (.lit (.bl true)) [7])) la1f4
def la1f2a : CSs := .cons (.ret (.lit (.bl false))) .nil
def la1f2 : CSs := .cons (.ifs (.nt (.call 22 (.cons (.var 1) (.cons (.var 3) (.cons (.var 5) .nil))))) la1f2a .nil) la1f3
def la1f1 : CSs := .cons (.asg (.nm 5) (.call 16 (.cons (.var 1) (.cons (.var 3) (.cons (.var 4) (.cons (.lit (.bl false)) (.cons (.call 15 (.cons (.var 1) (.cons (.lst (.cons (.lit (.str "x")) (.cons (.lit (.str "y2")) (.cons (.lit (.str "cap")) (.cons (.lit (.str "none2")) (.cons (.lit (.str "a23456789012")) .nil)))))) .nil))) (.cons (.lit (.int 16)) .nil)))))))) la1f2
def la1f : CSs := .cons (.asg (.tp [3, 4]) (.tup (.cons (.bin .add (.lit (.int 1)) (.call 13 (.cons (.var 1) (.cons (.lit (.int 4)) .nil)))) (.cons (.call 14 (.cons (.var 1) (.cons (.lst (.cons (.lit (.int 1)) (.cons (.lit (.int 3)) (.cons (.lit (.int 6)) (.cons (.lit (.int 12)) (.cons (.lit (.int 40)) .nil)))))) .nil))) .nil)))) la1f1
def la1 : CSs := .cons (.frr (.nm 2) (.rng (.cons (.lit (.int 5)) .nil)) la1f) la2
def la : CSs := .cons (.asg (.nm 1) (.call 12 (.cons (.var 0) .nil))) la1
structure TxtL (P : List Fn) : Prop extends Txt P where
  p24 : P[24]? = some ⟨1, 13, la⟩
section
variable {P : List Fn} {fu d n c many r : Nat} {h g : EH} {Q : PV → EH → Prop} {D : Fl → Sg → EH → Prop} {p : Pt} {s0 s1 s2 s3 s4 s5 s6 s7 s8 s9 s10 s11 s12 : Option PV} {hss : List (List Nat)}
def late : Pt := .thn (.tak "x" (.few (.sgn 0))) (.nt (.bth .emp (.agn .non)))
theorem late_pg : Pg late := ⟨by decide +kernel, by decide, by decide⟩
theorem la2_ok (X : TxtL P) (hfu : 20000 < fu) (hd : 30 ≤ d) (q : ∀ s g', D (.rt (.bl true)) s g') : Ss (run P fu (d + 1)) fu la2 [s0, s1, s2, s3, s4, s5, s6, s7, s8, s9, s10, s11, s12] g D := by
  rw [la2, Ss_cons]
  simp
  rw [show (PV.tup [.str "then", .tup [.str "take", .str "x", .tup [.str "few", .tup [.str "sign", .int 0]]], .tup [.str "not", .tup [.str "both", .tup [.str "empty"], .tup [.str "again", .tup [.str "none"]]]]]) = enc late from rfl]
  rw [la3, Ss_cons]
  simp
  refine plained_ok X.p0 X.p6 X.p7 (by omega) (dep late) late g (d + 1) _ (Nat.le_refl _) (by have := late_pg.d; omega) fun g1 k1 => ?_
  refine mirrored_ok X.p0 X.p6 X.p8 (by omega) (dep late) late g1 (d + 1) _ (Nat.le_refl _) (by have := late_pg.d; omega) fun g2 k2 => ?_
  refine size_ok X.p0 X.p1 X.p2 (by omega) (by have := late_pg.d; omega) (by have := late_pg.s; omega) fun g3 k3 => ?_
  refine has_ok X.p0 X.p5 (by omega) (dep late) late g3 (d + 1) _ (Nat.le_refl _) (by have := late_pg.d; omega) fun g4 k4 => ?_
  rw [la4, Ss_cons]
  have i2 : ∀ g : EH, opIx (enc late) (.int 2) g = some (enc (.nt (.bth .emp (.agn .non)))) := fun g => rfl
  have i1 : ∀ g : EH, opIx (enc late) (.int 1) g = some (enc (.tak "x" (.few (.sgn 0)))) := fun g => rfl
  simp [i1, i2]
  rw [la5, Ss_cons]
  simp
  have dd : ∀ (g : EH) (r : Nat), g[r]? = some (.lst [enc (pl late), enc (mr late), .int (size late : Nat), .bl (hasE late)]) → Dat g 21 9000 (.ref r) (.list [datP (pl late), datP (mr late), .int (size late : Nat), .bool (hasE late)]) := fun g r e =>
    (Dats.lst (Dats.cons late_pg.pl.dat (Dats.cons late_pg.mr.dat (Dats.cons (dI (by decide)) (Dats.cons (Dat.bl (b := 0)) (Dats.nil (b := 0)))))) e).more (by omega)
  have e0 : ([PV.tup [.str "then", .tup [.str "again", .tup [.str "sign", .int 0]], enc (.nt (.bth .emp (.agn .non)))], .tup [.str "then", enc (.nt (.bth .emp (.agn .non))), enc (.tak "x" (.few (.sgn 0)))], .int 9, .bl false] : List PV) = [enc (pl late), enc (mr late), .int (size late : Nat), .bl (hasE late)] := rfl
  rw [e0]
  have d1 := dd (g4 ++ [EO.lst [enc (pl late), enc (mr late), .int (size late : Nat), .bl (hasE late)], EO.lst [enc (pl late), enc (mr late), .int (size late : Nat), .bl (hasE late)]]) g4.length (by simp)
  have d2 := dd (g4 ++ [EO.lst [enc (pl late), enc (mr late), .int (size late : Nat), .bl (hasE late)], EO.lst [enc (pl late), enc (mr late), .int (size late : Nat), .bl (hasE late)]]) (g4.length + 1) (by simp)
  rw [d1.repr (by omega) (by omega), d2.repr (by omega) (by omega), c_eqSelf d1.ok]
  exact q _ _
def hL (hss : List (List Nat)) : EO := .lst (hss.map encH)
theorem dat_hL {f : List Nat → List Nat} (e : g[r]? = some (.lst (hss.map fun l => encH (f l)))) (hl : hss.length ≤ 10) (hb : ∀ l ∈ hss, (f l).length ≤ 60 ∧ ∀ x ∈ f l, x < 1000) : Dat g 2 1000 (.ref r) (.list (hss.map fun l => dH (f l))) :=
  (Dats.lst (Dats.map (b := 60) fun l hm => (hs_dat (hb l hm).2).more (hb l hm).1) e).more (by have : hss.length * 61 ≤ 10 * 61 := Nat.mul_le_mul_right _ hl; omega)
structure Hs (hss : List (List Nat)) : Prop where
  l : hss.length ≤ 3
  b : ∀ l ∈ hss, l.length ≤ 60 ∧ ∀ x ∈ l, x < 900
theorem Hs.fl (x : Hs hss) : hss.flatten.length ≤ 180 ∧ ∀ y ∈ hss.flatten, y < 900 := by
  obtain ⟨l, b⟩ := x
  constructor
  · have : ∀ hss : List (List Nat), (∀ l ∈ hss, l.length ≤ 60) → hss.flatten.length ≤ 60 * hss.length := fun hss => by
      induction hss with
      | nil => intro _; simp
      | cons a as ih =>
        intro h
        have := h a List.mem_cons_self
        have := ih fun z hz => h z (List.mem_cons_of_mem _ hz)
        simp only [List.flatten_cons, List.length_append, List.length_cons]
        omega
    have := this hss fun z hz => (b z hz).1
    omega
  · intro y hy
    obtain ⟨z, hz, hy⟩ := List.mem_flatten.mp hy
    exact (b z hz).2 y hy
theorem la7_ok {r6 : Nat} (X : TxtL P) (hfu : 20000 < fu) (y : Hs hss) (e6 : g[r6]? = some (hL hss)) (hs : Src n c g) (q : ∀ g', Src n c g' → D .nx [s0, s1, s2, s3, s4, s5, some (.ref r6), s7, s8, s9, s10, s11, s12] g') :
    Ss (run P fu (d + 1)) fu la1f7 [s0, s1, s2, s3, s4, s5, some (.ref r6), s7, s8, s9, s10, s11, s12] g D := by
  have e6' : g[r6]? = some (.lst (hss.map encH)) := e6
  have yl := y.l
  rw [la1f7, Ss_cons]
  simp [itrOf, e6']
  refine Cp_fm (g := fun l => some (encH l.reverse)) e6' (by omega) (by omega) (fun l hl => ?_) ?_
  · simp [wipeE]
    exact revh_ok X.p11 ⟨rfl, rfl⟩
  have fm : hss.filterMap (fun l => some (encH l.reverse)) = hss.map fun l => encH l.reverse := by rw [List.filterMap_eq_map']
  rw [fm]
  have bb : ∀ l ∈ hss, l.reverse.length ≤ 60 ∧ ∀ x ∈ l.reverse, x < 1000 := fun l hl => by
    obtain ⟨a, b⟩ := y.b l hl
    exact ⟨by simpa using a, fun x hx => by have := b x (by simpa using hx); omega⟩
  have d1 := dat_hL (g := g ++ [EO.lst (hss.map fun l => encH l.reverse)]) (r := g.length) (f := List.reverse) get_new (by omega) bb
  rw [d1.repr (by omega) (by omega)]
  have e62 : (g ++ [EO.lst (hss.map fun l => encH l.reverse)])[r6]? = some (.lst (hss.map encH)) := by rw [List.getElem?_append_left (get_lt e6)]; exact e6
  simp only [e62]
  refine Cp_fm (g := fun l => some (encH l.reverse)) e62 (by omega) (by omega) (fun l hl => ?_) ?_
  · simp [wipeE, encH, opRev]
  rw [fm]
  have d2 := dat_hL (g := g ++ [EO.lst (hss.map fun l => encH l.reverse)] ++ [EO.lst (hss.map fun l => encH l.reverse)]) (r := (g ++ [EO.lst (hss.map fun l => encH l.reverse)]).length) (f := List.reverse) get_new (by omega) bb
  rw [d2.repr (by omega) (by omega), c_neSelf d1.ok]
  simp
  have := K39.Src.new (o := EO.lst (hss.map fun l => encH l.reverse)) (K39.Src.new (o := EO.lst (hss.map fun l => encH l.reverse)) hs)
  refine q _ ?_
  simpa using this
end
end K01
end EV

set_option Elab.async false
set_option linter.all false
set_option maxRecDepth 100000
set_option maxHeartbeats 4000000
/-! K01n: the law, whole. -/
namespace EV
open PySem PySem.Spec
namespace K01
open K28
section
variable {P : List Fn} {fu d n c many r : Nat} {h g : EH} {Q : PV → EH → Prop} {D : Fl → Sg → EH → Prop} {p : Pt} {s0 s1 s2 s3 s4 s5 s6 s7 s8 s9 s10 s11 s12 : Option PV} {hss : List (List Nat)}
theorem la6_ok {r6 : Nat} (X : TxtL P) (hfu : 20000 < fu) (y : Hs hss) (e6 : g[r6]? = some (hL hss)) (hs : Src n c g) (q : ∀ g', Src n c g' → D .nx [s0, s1, s2, s3, s4, s5, some (.ref r6), s7, some (encH hss.flatten), s9, s10, s11, s12] g') :
    Ss (run P fu (d + 1)) fu la1f6 [s0, s1, s2, s3, s4, s5, some (.ref r6), s7, some (encH hss.flatten), s9, s10, s11, s12] g D := by
  have e6' : g[r6]? = some (.lst (hss.map encH)) := e6
  have yl := y.l
  obtain ⟨f1, f2⟩ := y.fl
  rw [la1f6, Ss_cons]
  simp
  refine joined_ok (d := d) (J := .dy r6) (hs := hss) X.p10 (by simp [evI, ev, e6']) (fun i => by simp only [item, e6']) (by simp only [itFuel]; omega) (by omega) ?_
  have e61 : (g ++ [EO.lst (hss.flatten.map fun (s : Nat) => PV.int s)])[r6]? = some (.lst (hss.map encH)) := by rw [List.getElem?_append_left (get_lt e6)]; exact e6
  rw [b_tupR e61]
  refine joined_ok (d := d) (J := .st (hss.map encH)) (hs := hss) X.p10 (by simp [evI, ev]) (fun i => by simp only [item]) (by simp only [itFuel, List.length_map]; omega) (by omega) ?_
  have dw : ∀ g : EH, Dat g 1 180 (encH hss.flatten) (dH hss.flatten) := fun g => (hs_dat fun x hx => by have := f2 x hx; omega).more f1
  have dd : ∀ g : EH, Dat (g ++ [EO.lst [encH hss.flatten, encH hss.flatten]]) 2 400 (.ref g.length) (.list [dH hss.flatten, dH hss.flatten]) := fun g => (dat_two get_new (dw _) (dw _)).more (by omega)
  rw [(dd _).repr (by omega) (by omega), (dd _).repr (by omega) (by omega), c_neSelf (dd g).ok]
  simp only [Bool.false_eq_true, if_false, Ss_nil, nxt_nx]
  generalize hg : (((g ++ [EO.lst (hss.flatten.map fun (s : Nat) => PV.int s)]) ++ [EO.lst (hss.flatten.map fun (s : Nat) => PV.int s)]) ++ [EO.lst [encH hss.flatten, encH hss.flatten]]) ++ [EO.lst [encH hss.flatten, encH hss.flatten]] = g2
  have s2 : Src n c g2 := by rw [← hg]; exact K39.Src.new (K39.Src.new (K39.Src.new (K39.Src.new hs)))
  have e62 : g2[r6]? = some (hL hss) := by
    have := get_lt e6
    rw [← hg, List.append_assoc, List.append_assoc, List.append_assoc, List.getElem?_append_left this]
    exact e6
  exact la7_ok X hfu y e62 s2 fun g' s' => q g' s'
theorem addHl {v w : List Nat} (hl : v.length + w.length ≤ 1000000) : Rr (opB .add (encH v) (encH w) h) Q ↔ Q (encH (v ++ w)) h := by
  unfold encH
  rw [o_addT, List.map_append]
  exact ⟨fun z => z.2, fun z => ⟨by rw [sz]; simp; omega, z⟩⟩
theorem la4_ok {r6 : Nat} (X : TxtL P) (hfu : 20000 < fu) (y : Hs hss) (e6 : g[r6]? = some (hL hss)) (hs : Src n c g) (q : ∀ s8 s9 g', Src n c g' → D .nx [s0, s1, s2, s3, s4, s5, some (.ref r6), s7, s8, s9, s10, s11, s12] g') :
    Ss (run P fu (d + 1)) fu la1f4 [s0, s1, s2, s3, s4, s5, some (.ref r6), s7, s8, s9, s10, s11, s12] g D := by
  have e6' : g[r6]? = some (.lst (hss.map encH)) := e6
  have yl := y.l
  rw [la1f4, Ss_cons]
  simp
  rw [la1f5, Ss_cons]
  obtain ⟨I, hI⟩ : ∃ I : Nat → Nat → Sg → EH → Prop, ∀ r j s g', I r j s g' ↔ (r = r6 ∧ g' = g ∧ j ≤ hss.length ∧ ∃ m9, s = [s0, s1, s2, s3, s4, s5, some (.ref r6), s7, some (encH (hss.take j).flatten), m9, s10, s11, s12]) := ⟨_, fun _ _ _ _ => Iff.rfl⟩
  refine for_L (ys := hss.map encH) I ?_ (by rw [List.length_map]; omega) ?_ ?_ ?_
  · simp [itrOf, e6']
    exact (hI _ _ _ _).mpr ⟨rfl, rfl, Nat.zero_le _, _, rfl⟩
  · intro r j s g' hj
    obtain ⟨rfl, rfl, hjj, m9, rfl⟩ := (hI _ _ _ _).mp hj
    exact ⟨e6', by rw [List.length_map]; exact hjj⟩
  · intro r j z s g' hz hj
    obtain ⟨rfl, rfl, hjj, m9, rfl⟩ := (hI _ _ _ _).mp hj
    rw [List.getElem?_map] at hz
    obtain ⟨l, hl, rfl⟩ := Option.map_eq_some_iff.mp hz
    have hjl := (List.getElem?_eq_some_iff.mp hl).1
    have t1 : (hss.take (j + 1)).flatten = (hss.take j).flatten ++ l := by rw [List.take_add_one, hl]; simp
    have lf : (hss.take (j + 1)).flatten.length ≤ 180 := by
      have h1 : hss.flatten = (hss.take (j + 1)).flatten ++ (hss.drop (j + 1)).flatten := by rw [← List.flatten_append, List.take_append_drop]
      have := (y.fl).1
      rw [h1, List.length_append] at this
      omega
    rw [t1, List.length_append] at lf
    rw [la1f5f, Ss_cons, S_nm, E_bin, E_var]
    refine ⟨_, rfl, ?_⟩
    rw [E_var]
    refine ⟨_, rfl, ?_⟩
    rw [addHl (by omega)]
    simp [turn]
    refine (hI _ _ _ _).mpr ⟨rfl, rfl, hjl, some (encH l), ?_⟩
    rw [t1]
  · intro r s g' hj
    obtain ⟨rfl, rfl, hjj, m9, rfl⟩ := (hI _ _ _ _).mp hj
    rw [List.length_map, List.take_length, nxt_nx]
    exact la6_ok X hfu y e6 hs fun g' s' => q _ _ g' s'
theorem la3_ok (X : TxtL P) (hfu : 20000 < fu) (hd : 30 ≤ d) (h1 : 1 ≤ many) (h2 : many ≤ 4) (hs : Src n c g) (q : ∀ s6 s7 s8 s9 g', Src n c g' → D .nx [s0, some (.ref n), s2, some (.int (many : Nat)), s4, s5, s6, s7, s8, s9, s10, s11, s12] g') :
    Ss (run P fu (d + 1)) fu la1f3 [s0, some (.ref n), s2, some (.int (many : Nat)), s4, s5, s6, s7, s8, s9, s10, s11, s12] g D := by
  obtain ⟨d, rfl⟩ : ∃ d', d = d' + 1 := ⟨d - 1, by omega⟩
  rw [la1f3, Ss_cons]
  simp
  refine pick_ok (d := d + 1) X.p13 hs (by omega) (by omega) (by omega) fun v g1 v0 v1 s1 k1 => ?_
  rw [range1 (small_of (by omega) (by omega))]
  simp only [R_some, wipeE]
  refine Cp_gen (ys := rangeL 0 1 v.toNat) [n, c] (fun i x g => ∃ l : List Nat, x = encH l ∧ l.length ≤ 60 ∧ ∀ a ∈ l, a < many) (fun g => Src n c g) (fun i x g g' a b => a) (by rw [rangeL_len]; omega) s1 ?_ ?_
  · intro i y g1 hy sg
    simp
    refine ofN (d := d) (fu := fu) X.p13 X.p14 sg (by simp) (by simp) (by omega) fun x g2 hx s2 k2 => ?_
    have : ∃ m : Nat, x = .int (m : Nat) ∧ m ≤ 60 := by
      simp at hx
      rcases hx with rfl | rfl | rfl
      · exact ⟨0, rfl, by omega⟩
      · exact ⟨3, rfl, by omega⟩
      · exact ⟨60, rfl, by omega⟩
    obtain ⟨m, rfl, hm⟩ := this
    refine EV.drawn_ok (d := d) rfl rfl X.p13 X.p23 s2 h1 (by omega) (by omega) (by omega) fun l g3 hl hb s3 k3 => ⟨⟨l, rfl, by omega, hb⟩, k2.trans (k3.less k2.2.1), s3⟩
  · intro xs g2 hl hp sg
    have : ∃ hss : List (List Nat), xs = hss.map encH ∧ hss.length = xs.length ∧ ∀ l ∈ hss, l.length ≤ 60 ∧ ∀ a ∈ l, a < many := by
      clear hl
      induction xs with
      | nil => exact ⟨[], rfl, rfl, by simp⟩
      | cons x xs ih =>
        obtain ⟨l, rfl, a, b⟩ := hp 0 x rfl
        obtain ⟨hss, rfl, e, f⟩ := ih fun i x hx => hp (i + 1) x (by simpa using hx)
        refine ⟨l :: hss, rfl, by simp, fun z hz => ?_⟩
        rcases List.mem_cons.mp hz with rfl | hz
        · exact ⟨a, b⟩
        · exact f z hz
    obtain ⟨hss, rfl, e, f⟩ := this
    rw [rangeL_len] at hl
    have y : Hs hss := ⟨by omega, fun l hl => ⟨(f l hl).1, fun a ha => by have := (f l hl).2 a ha; omega⟩⟩
    try simp only [List.set_cons_succ, List.set_cons_zero, nxt_nx]
    exact la4_ok X hfu y get_new (K39.Src.new sg) fun s8 s9 g' s' => q _ _ _ _ g' s'
theorem lap_ok (X : TxtL P) (hfu : 20000 < fu) (hd : 40 ≤ d) (hs : Src n c g) (hT : ∀ v s g, D (.rt v) s g → True) (q : ∀ s3 s4 s5 s6 s7 s8 s9 g', Src n c g' → D .nx [s0, some (.ref n), s2, s3, s4, s5, s6, s7, s8, s9, s10, s11, s12] g') :
    Ss (run P fu (d + 1)) fu la1f [s0, some (.ref n), s2, s3, s4, s5, s6, s7, s8, s9, s10, s11, s12] g D := by
  obtain ⟨d, rfl⟩ : ∃ d', d = d' + 2 := ⟨d - 2, by omega⟩
  rw [la1f, Ss_cons]
  simp
  refine pick_ok (d := d + 2) X.p13 hs (by omega) (by omega) (by omega) fun v g1 v0 v1 s1 k1 => ?_
  rw [o_add]
  refine ofN (d := d + 1) (fu := fu) X.p13 X.p14 s1 (by simp) (by simp) (by omega) fun x g2 hx s2' k2 => ?_
  have : ∃ room : Nat, x = .int (room : Nat) ∧ room ≤ 40 := by
    simp at hx
    rcases hx with rfl | rfl | rfl | rfl | rfl
    · exact ⟨1, rfl, by omega⟩
    · exact ⟨3, rfl, by omega⟩
    · exact ⟨6, rfl, by omega⟩
    · exact ⟨12, rfl, by omega⟩
    · exact ⟨40, rfl, by omega⟩
  obtain ⟨room, rfl, hroom⟩ := this
  rw [show (1 + v) = ((1 + v.toNat : Nat) : Int) by omega]
  have hm1 : 1 ≤ 1 + v.toNat := by omega
  have hm2 : 1 + v.toNat ≤ 4 := by omega
  generalize 1 + v.toNat = many at hm1 hm2
  simp [bindAll]
  rw [la1f1, Ss_cons]
  simp
  refine K39.mixed_ok (d := d + 1) X.p13 X.p15 (K39.Src.new s2') get_new (by simp) (by omega) fun r ys g3 hr e3 pm s3' k3 => ?_
  have lt2 := s2'.lt
  have nm : NmL g3 r := by
    have : ∃ xs : List Str, ys = xs.map PV.str ∧ ∀ x ∈ xs, nmOk x = true := by
      have hb : ∀ y ∈ ys, ∃ x : Str, y = .str x ∧ nmOk x = true := fun y hy => by
        have := pm.mem_iff.mp hy
        simp at this
        rcases this with rfl | rfl | rfl | rfl | rfl <;> exact ⟨_, rfl, by decide +kernel⟩
      clear pm e3
      induction ys with
      | nil => exact ⟨[], rfl, by simp⟩
      | cons z zs ih =>
        obtain ⟨x, rfl, hx⟩ := hb z List.mem_cons_self
        obtain ⟨xs, rfl, h⟩ := ih fun y hy => hb y (List.mem_cons_of_mem _ hy)
        exact ⟨x :: xs, rfl, by simp; exact ⟨hx, h⟩⟩
    obtain ⟨xs, rfl, h⟩ := this
    have := pm.length_eq
    simp at this
    exact ⟨xs, e3, by omega, h⟩
  have hr' : g2.length + 1 ≤ r := by simpa using hr
  refine drawn_ok (m := r) X.p13 X.p14 X.p16 hm1 (by omega) (by omega) (by omega) (by omega) 16 room false g3 (d + 1 + 1 + 1) _ (by omega) (by omega) s3' nm fun p g4 dp s4' n4 k4 => ?_
  have y : Pg p := ⟨dp.dt, by have := dp.sz; omega, by have := dp.dp; omega⟩
  try simp
  rw [la1f2, Ss_cons]
  simp
  refine right_ok (d := d + 1) X.toTxt hfu y (by omega) s4' (by omega) dp.sg fun g5 s5' k5 => ?_
  simp
  exact la3_ok X hfu (by omega) hm1 hm2 s5' fun s6 s7 s8 s9 g' s' => q _ _ _ _ _ _ _ g' s'
theorem law_ok (X : TxtL P) (hfu : 20000 < fu) (hd : 50 ≤ d) {ns : List Int} (hn : ns.length ≤ 63) : ∃ h, run P fu (d + 2) 24 [.fl (ns.map .int)] [] = some (.bl true, h) := by
  have key : Rr (run P fu (d + 2) 24 [.fl (ns.map .int)] []) fun v _ => v = .bl true := by
    refine run_R X.p24 rfl ?_
    rw [la, Ss_cons]
    simp
    refine source_ok (d := d) X.p12 hn fun n c h1 s1 => ?_
    rw [la1, Ss_cons]
    obtain ⟨I, hI⟩ : ∃ I : Nat → Sg → EH → Prop, ∀ i s g, I i s g ↔ (∃ a2 a3 a4 a5 a6 a7 a8 a9 a10 a11 a12 : Option PV, s = [some (.fl (ns.map .int)), some (.ref n), a2, a3, a4, a5, a6, a7, a8, a9, a10, a11, a12] ∧ Src n c g) := ⟨_, fun _ _ _ => Iff.rfl⟩
    refine for_st (xs := [.int 0, .int 1, .int 2, .int 3, .int 4]) (h1 := h1) I rfl ((hI _ _ _).mpr ⟨_, _, _, _, _, _, _, _, _, _, _, rfl, s1⟩) ?_ ?_
    · intro i x s g hx hj
      obtain ⟨a2, a3, a4, a5, a6, a7, a8, a9, a10, a11, a12, rfl, sg⟩ := (hI _ _ _).mp hj
      simp only [bindT, R_some, List.set_cons_succ, List.set_cons_zero]
      exact lap_ok X hfu (by omega) sg (fun _ _ _ _ => trivial) fun s3 s4 s5 s6 s7 s8 s9 g' s' => (hI _ _ _).mpr ⟨_, _, _, _, _, _, _, _, _, _, _, rfl, s'⟩
    · intro s g hj
      obtain ⟨a2, a3, a4, a5, a6, a7, a8, a9, a10, a11, a12, rfl, sg⟩ := (hI _ _ _).mp hj
      rw [nxt_nx]
      exact la2_ok X hfu (by omega) fun s g' => rfl
  obtain ⟨⟨v, h⟩, e, rfl⟩ := key
  exact ⟨h, e⟩
end
end K01
end EV

namespace Lk
open PySem L2 EV PyProof.Rows
def top (i : Nat) : Stmt := PySem.Challenge.pw_turnsorsays_k01_parts_of_patterns.main.body.getD i (.Pass ⟨0, 0, 0, 0⟩)
def gl : List (Str × GI) := [("INNER", .kd [("none", (.tup [])), ("empty", (.tup [])), ("sign", (.tup [])), ("then", (.tup [(.int 1), (.int 2)])), ("or", (.tup [(.int 1), (.int 2)])), ("both", (.tup [(.int 1), (.int 2)])), ("not", (.tup [(.int 1)])), ("again", (.tup [(.int 1)])), ("few", (.tup [(.int 1)])), ("take", (.tup [(.int 2)]))]), ("inner_of", .fn 0 1 []), ("parts_of", .fn 1 1 []), ("size_of", .fn 2 1 []), ("takes_of", .fn 3 1 []), ("is_plain", .fn 4 1 []), ("has_empty", .fn 5 1 []), ("with_inner", .fn 6 2 []), ("plained", .fn 7 1 []), ("mirrored", .fn 8 1 []), ("exchanged", .fn 9 2 []), ("joined", .fn 10 1 []), ("reversed_history", .fn 11 1 []), ("_law_source", .fn 12 1 []), ("_law_pick", .fn 13 2 []), ("_law_of", .fn 14 2 []), ("_law_mixed", .fn 15 2 []), ("_law_drawn", .fn 16 6 [(.int 16)]), ("_law_inner", .fn 17 1 []), ("_law_parts", .fn 18 1 []), ("_law_has_empty", .fn 19 1 []), ("_law_changed", .fn 20 3 []), ("_law_takes", .fn 21 1 []), ("_law_pattern_right", .fn 22 3 []), ("_law_history", .fn 23 3 []), ("law", .fn 24 1 [])]
/-- inner_of -/
def c0 : CSs := (.cons (.ret (.comp (.idx (.var 0) (.var 1)) (.nm 1) (.val (.kix [("none", (.tup [])), ("empty", (.tup [])), ("sign", (.tup [])), ("then", (.tup [(.int 1), (.int 2)])), ("or", (.tup [(.int 1), (.int 2)])), ("both", (.tup [(.int 1), (.int 2)])), ("not", (.tup [(.int 1)])), ("again", (.tup [(.int 1)])), ("few", (.tup [(.int 1)])), ("take", (.tup [(.int 2)]))] (.idx (.var 0) (.lit (.int 0))))) (.lit (.bl true)) [1]))
 .nil)
def d0 : Dd := { x := "inner_of", st := top 2, N := ["pattern", "k"], ps := ["pattern"], cs := c0, ds := [] }
theorem k0 : DdOk gl d0 := ⟨⟨rfl, rfl, rfl, by decide +kernel, rfl, by decide +kernel, by decide +kernel⟩, by decide +kernel⟩
theorem b0 : ParOk d0.x d0.st d0.ps := fun _ _ _ _ _ _ us hl => match us, hl with | [_], _ => rfl
/-- parts_of -/
def c1 : CSs := (.cons (.asg (.nm 1) (.lst (.cons (.var 0) .nil)))
 (.cons (.frr (.nm 2) (.val (.call 0 (.cons (.var 0) .nil)))
 (.cons (.expr (.meth .extend (.var 1) (.cons (.call 1 (.cons (.var 2) .nil)) .nil)))
 .nil))
 (.cons (.ret (.var 1))
 .nil)))
def d1 : Dd := { x := "parts_of", st := top 3, N := ["pattern", "found", "one"], ps := ["pattern"], cs := c1, ds := [] }
theorem k1 : DdOk gl d1 := ⟨⟨rfl, rfl, rfl, by decide +kernel, rfl, by decide +kernel, by decide +kernel⟩, by decide +kernel⟩
theorem b1 : ParOk d1.x d1.st d1.ps := fun _ _ _ _ _ _ us hl => match us, hl with | [_], _ => rfl
/-- size_of -/
def c2 : CSs := (.cons (.ret (.bi .len (.cons (.call 1 (.cons (.var 0) .nil)) .nil)))
 .nil)
def d2 : Dd := { x := "size_of", st := top 4, N := ["pattern"], ps := ["pattern"], cs := c2, ds := [] }
theorem k2 : DdOk gl d2 := ⟨⟨rfl, rfl, rfl, by decide +kernel, rfl, by decide +kernel, by decide +kernel⟩, by decide +kernel⟩
theorem b2 : ParOk d2.x d2.st d2.ps := fun _ _ _ _ _ _ us hl => match us, hl with | [_], _ => rfl
/-- takes_of -/
def c3 : CSs := (.cons (.ret (.comp (.idx (.var 1) (.lit (.int 1))) (.nm 1) (.val (.call 1 (.cons (.var 0) .nil))) (.cmp .eq (.idx (.var 1) (.lit (.int 0))) (.lit (.str "take"))) [1]))
 .nil)
def d3 : Dd := { x := "takes_of", st := top 5, N := ["pattern", "part"], ps := ["pattern"], cs := c3, ds := [] }
theorem k3 : DdOk gl d3 := ⟨⟨rfl, rfl, rfl, by decide +kernel, rfl, by decide +kernel, by decide +kernel⟩, by decide +kernel⟩
theorem b3 : ParOk d3.x d3.st d3.ps := fun _ _ _ _ _ _ us hl => match us, hl with | [_], _ => rfl
/-- is_plain -/
def c4 : CSs := (.cons (.ret (.bi .all (.cons (.comp (.cmp .notIn (.idx (.var 1) (.lit (.int 0))) (.tup (.cons (.lit (.str "few")) (.cons (.lit (.str "take")) .nil)))) (.nm 1) (.val (.call 1 (.cons (.var 0) .nil))) (.lit (.bl true)) [1]) .nil)))
 .nil)
def d4 : Dd := { x := "is_plain", st := top 6, N := ["pattern", "part"], ps := ["pattern"], cs := c4, ds := [] }
theorem k4 : DdOk gl d4 := ⟨⟨rfl, rfl, rfl, by decide +kernel, rfl, by decide +kernel, by decide +kernel⟩, by decide +kernel⟩
theorem b4 : ParOk d4.x d4.st d4.ps := fun _ _ _ _ _ _ us hl => match us, hl with | [_], _ => rfl
/-- has_empty -/
def c5 : CSs := (.cons (.asg (.nm 1) (.idx (.var 0) (.lit (.int 0))))
 (.cons (.ifs (.cmp .isIn (.var 1) (.tup (.cons (.lit (.str "empty")) (.cons (.lit (.str "again")) (.cons (.lit (.str "few")) .nil)))))
 (.cons (.ret (.lit (.bl true)))
 .nil)
 .nil)
 (.cons (.asg (.nm 2) (.comp (.call 5 (.cons (.var 3) .nil)) (.nm 3) (.val (.call 0 (.cons (.var 0) .nil))) (.lit (.bl true)) [3]))
 (.cons (.ifs (.cmp .eq (.var 1) (.lit (.str "or")))
 (.cons (.ret (.bi .any (.cons (.var 2) .nil)))
 .nil)
 .nil)
 (.cons (.ifs (.cmp .eq (.var 1) (.lit (.str "not")))
 (.cons (.ret (.nt (.idx (.var 2) (.lit (.int 0)))))
 .nil)
 .nil)
 (.cons (.ret (.and (.cmp .notIn (.var 1) (.tup (.cons (.lit (.str "none")) (.cons (.lit (.str "sign")) .nil)))) (.bi .all (.cons (.var 2) .nil))))
 .nil))))))
def d5 : Dd := { x := "has_empty", st := top 7, N := ["pattern", "word", "told", "one"], ps := ["pattern"], cs := c5, ds := [] }
theorem k5 : DdOk gl d5 := ⟨⟨rfl, rfl, rfl, by decide +kernel, rfl, by decide +kernel, by decide +kernel⟩, by decide +kernel⟩
theorem b5 : ParOk d5.x d5.st d5.ps := fun _ _ _ _ _ _ us hl => match us, hl with | [_], _ => rfl
/-- with_inner -/
def c6 : CSs := (.cons (.asg (.nm 2) (.bi .list (.cons (.var 0) .nil)))
 (.cons (.frr (.tp [3, 4]) (.zip false (.kix [("none", (.tup [])), ("empty", (.tup [])), ("sign", (.tup [])), ("then", (.tup [(.int 1), (.int 2)])), ("or", (.tup [(.int 1), (.int 2)])), ("both", (.tup [(.int 1), (.int 2)])), ("not", (.tup [(.int 1)])), ("again", (.tup [(.int 1)])), ("few", (.tup [(.int 1)])), ("take", (.tup [(.int 2)]))] (.idx (.var 0) (.lit (.int 0)))) (.var 1))
 (.cons (.asg (.sub (.var 2) (.var 3)) (.var 4))
 .nil))
 (.cons (.ret (.bi .tuple (.cons (.var 2) .nil)))
 .nil)))
def d6 : Dd := { x := "with_inner", st := top 8, N := ["pattern", "inner", "found", "k", "one"], ps := ["pattern", "inner"], cs := c6, ds := [] }
theorem k6 : DdOk gl d6 := ⟨⟨rfl, rfl, rfl, by decide +kernel, rfl, by decide +kernel, by decide +kernel⟩, by decide +kernel⟩
theorem b6 : ParOk d6.x d6.st d6.ps := fun _ _ _ _ _ _ us hl => match us, hl with | [_, _], _ => rfl
/-- plained -/
def c7 : CSs := (.cons (.asg (.nm 1) (.comp (.call 7 (.cons (.var 2) .nil)) (.nm 2) (.val (.call 0 (.cons (.var 0) .nil))) (.lit (.bl true)) [2]))
 (.cons (.ifs (.cmp .eq (.idx (.var 0) (.lit (.int 0))) (.lit (.str "take")))
 (.cons (.ret (.idx (.var 1) (.lit (.int 0))))
 .nil)
 .nil)
 (.cons (.ret (.ife (.cmp .eq (.idx (.var 0) (.lit (.int 0))) (.lit (.str "few"))) (.tup (.cons (.lit (.str "again")) (.cons (.idx (.var 1) (.lit (.int 0))) .nil))) (.call 6 (.cons (.var 0) (.cons (.var 1) .nil)))))
 .nil)))
def d7 : Dd := { x := "plained", st := top 9, N := ["pattern", "inner", "one"], ps := ["pattern"], cs := c7, ds := [] }
theorem k7 : DdOk gl d7 := ⟨⟨rfl, rfl, rfl, by decide +kernel, rfl, by decide +kernel, by decide +kernel⟩, by decide +kernel⟩
theorem b7 : ParOk d7.x d7.st d7.ps := fun _ _ _ _ _ _ us hl => match us, hl with | [_], _ => rfl
/-- mirrored -/
def c8 : CSs := (.cons (.asg (.nm 1) (.comp (.call 8 (.cons (.var 2) .nil)) (.nm 2) (.val (.call 0 (.cons (.var 0) .nil))) (.lit (.bl true)) [2]))
 (.cons (.ret (.call 6 (.cons (.var 0) (.cons (.ife (.cmp .eq (.idx (.var 0) (.lit (.int 0))) (.lit (.str "then"))) (.rev (.var 1)) (.var 1)) .nil))))
 .nil))
def d8 : Dd := { x := "mirrored", st := top 10, N := ["pattern", "inner", "one"], ps := ["pattern"], cs := c8, ds := [] }
theorem k8 : DdOk gl d8 := ⟨⟨rfl, rfl, rfl, by decide +kernel, rfl, by decide +kernel, by decide +kernel⟩, by decide +kernel⟩
theorem b8 : ParOk d8.x d8.st d8.ps := fun _ _ _ _ _ _ us hl => match us, hl with | [_], _ => rfl
/-- exchanged -/
def c9 : CSs := (.cons (.ifs (.cmp .eq (.idx (.var 0) (.lit (.int 0))) (.lit (.str "sign")))
 (.cons (.ret (.tup (.cons (.lit (.str "sign")) (.cons (.idx (.var 1) (.idx (.var 0) (.lit (.int 1)))) .nil))))
 .nil)
 .nil)
 (.cons (.ret (.call 6 (.cons (.var 0) (.cons (.comp (.call 9 (.cons (.var 2) (.cons (.var 1) .nil))) (.nm 2) (.val (.call 0 (.cons (.var 0) .nil))) (.lit (.bl true)) [2]) .nil))))
 .nil))
def d9 : Dd := { x := "exchanged", st := top 11, N := ["pattern", "order", "one"], ps := ["pattern", "order"], cs := c9, ds := [] }
theorem k9 : DdOk gl d9 := ⟨⟨rfl, rfl, rfl, by decide +kernel, rfl, by decide +kernel, by decide +kernel⟩, by decide +kernel⟩
theorem b9 : ParOk d9.x d9.st d9.ps := fun _ _ _ _ _ _ us hl => match us, hl with | [_, _], _ => rfl
/-- joined -/
def c10 : CSs := (.cons (.ret (.bi .tuple (.cons (.comp2 (.var 2) (.nm 1) (.val (.var 0)) (.nm 2) (.val (.var 1)) [1, 2] [2]) .nil)))
 .nil)
def d10 : Dd := { x := "joined", st := top 12, N := ["histories", "history", "sign"], ps := ["histories"], cs := c10, ds := [] }
theorem k10 : DdOk gl d10 := ⟨⟨rfl, rfl, rfl, by decide +kernel, rfl, by decide +kernel, by decide +kernel⟩, by decide +kernel⟩
theorem b10 : ParOk d10.x d10.st d10.ps := fun _ _ _ _ _ _ us hl => match us, hl with | [_], _ => rfl
/-- reversed_history -/
def c11 : CSs := (.cons (.ret (.rev (.var 0)))
 .nil)
def d11 : Dd := { x := "reversed_history", st := top 13, N := ["history"], ps := ["history"], cs := c11, ds := [] }
theorem k11 : DdOk gl d11 := ⟨⟨rfl, rfl, rfl, by decide +kernel, rfl, by decide +kernel, by decide +kernel⟩, by decide +kernel⟩
theorem b11 : ParOk d11.x d11.st d11.ps := fun _ _ _ _ _ _ us hl => match us, hl with | [_], _ => rfl
/-- _law_source -/
def c12 : CSs := (.cons (.asg (.nm 1) (.lit (.int 11)))
 (.cons (.frr (.nm 2) (.val (.var 0))
 (.cons (.asg (.nm 1) (.bin .mod (.bi .int (.cons (.bin .add (.bin .add (.bin .mul (.var 1) (.lit (.int 69069))) (.bin .mul (.var 2) (.lit (.int 31)))) (.lit (.int 5))) .nil)) (.lit (.int 2147483629))))
 .nil))
 (.cons (.ret (.dict (.cons (.lit (.str "cells")) (.cons (.rev (.comp (.bi .abs (.cons (.var 2) .nil)) (.nm 2) (.val (.var 0)) (.lit (.bl true)) [2])) (.cons (.lit (.str "left")) (.cons (.lit (.int 1)) (.cons (.lit (.str "mixed")) (.cons (.var 1) (.cons (.lit (.str "turn")) (.cons (.lit (.int 0)) .nil))))))))))
 .nil)))
def d12 : Dd := { x := "_law_source", st := top 15, N := ["script", "mixed", "cell"], ps := ["script"], cs := c12, ds := [] }
theorem k12 : DdOk gl d12 := ⟨⟨rfl, rfl, rfl, by decide +kernel, rfl, by decide +kernel, by decide +kernel⟩, by decide +kernel⟩
theorem b12 : ParOk d12.x d12.st d12.ps := fun _ _ _ _ _ _ us hl => match us, hl with | [_], _ => rfl
/-- _law_pick -/
def c13 : CSs := (.cons (.whl (.and (.cmp .gt (.var 1) (.lit (.int 1))) (.and (.cmp .lt (.idx (.var 0) (.lit (.str "left"))) (.lit (.int 2))) (.cmp .gt (.bi .len (.cons (.idx (.var 0) (.lit (.str "cells"))) .nil)) (.lit (.int 0)))))
 (.cons (.asg (.sub (.var 0) (.lit (.str "left"))) (.meth .pop (.idx (.var 0) (.lit (.str "cells"))) .nil))
 .nil))
 (.cons (.asg (.nm 2) (.idx (.var 0) (.lit (.str "left"))))
 (.cons (.ifs (.or (.cmp .lt (.var 1) (.lit (.int 2))) (.cmp .gt (.var 2) (.lit (.int 1))))
 (.cons (.asg (.sub (.var 0) (.lit (.str "left"))) (.bin .fdiv (.var 2) (.bi .max (.cons (.lit (.int 1)) (.cons (.var 1) .nil)))))
 (.cons (.ret (.bin .mod (.bi .int (.cons (.var 2) .nil)) (.bi .max (.cons (.lit (.int 1)) (.cons (.var 1) .nil)))))
 .nil))
 .nil)
 (.cons (.asg (.sub (.var 0) (.lit (.str "turn"))) (.bin .add (.idx (.var 0) (.lit (.str "turn"))) (.lit (.int 1))))
 (.cons (.asg (.nm 3) (.bin .mod (.bi .int (.cons (.bin .add (.idx (.var 0) (.lit (.str "mixed"))) (.bin .mul (.idx (.var 0) (.lit (.str "turn"))) (.lit (.int 104729)))) .nil)) (.lit (.int 998244353))))
 (.cons (.asg (.nm 3) (.bin .mod (.bi .int (.cons (.bin .add (.bin .mul (.var 3) (.var 3)) (.bin .mul (.idx (.var 0) (.lit (.str "turn"))) (.lit (.int 17)))) .nil)) (.lit (.int 2147483647))))
 (.cons (.asg (.sub (.var 0) (.lit (.str "mixed"))) (.var 3))
 (.cons (.ret (.bin .mod (.bi .int (.cons (.bin .fdiv (.var 3) (.lit (.int 16))) .nil)) (.var 1)))
 .nil))))))))
def d13 : Dd := { x := "_law_pick", st := top 16, N := ["source", "many", "left", "mixed"], ps := ["source", "many"], cs := c13, ds := [] }
theorem k13 : DdOk gl d13 := ⟨⟨rfl, rfl, rfl, by decide +kernel, rfl, by decide +kernel, by decide +kernel⟩, by decide +kernel⟩
theorem b13 : ParOk d13.x d13.st d13.ps := fun _ _ _ _ _ _ us hl => match us, hl with | [_, _], _ => rfl
/-- _law_of -/
def c14 : CSs := (.cons (.ret (.idx (.var 1) (.call 13 (.cons (.var 0) (.cons (.bi .len (.cons (.var 1) .nil)) .nil)))))
 .nil)
def d14 : Dd := { x := "_law_of", st := top 17, N := ["source", "some"], ps := ["source", "some"], cs := c14, ds := [] }
theorem k14 : DdOk gl d14 := ⟨⟨rfl, rfl, rfl, by decide +kernel, rfl, by decide +kernel, by decide +kernel⟩, by decide +kernel⟩
theorem b14 : ParOk d14.x d14.st d14.ps := fun _ _ _ _ _ _ us hl => match us, hl with | [_, _], _ => rfl
/-- _law_mixed -/
def c15 : CSs := (.cons (.asg (.nm 2) (.bi .list (.cons (.var 1) .nil)))
 (.cons (.ret (.comp (.meth .popAt (.var 2) (.cons (.call 13 (.cons (.var 0) (.cons (.bi .len (.cons (.var 2) .nil)) .nil))) .nil)) (.nm 3) (.rng (.cons (.bi .len (.cons (.var 2) .nil)) .nil)) (.lit (.bl true)) [3]))
 .nil))
def d15 : Dd := { x := "_law_mixed", st := top 18, N := ["source", "things", "rest", "lap"], ps := ["source", "things"], cs := c15, ds := [] }
theorem k15 : DdOk gl d15 := ⟨⟨rfl, rfl, rfl, by decide +kernel, rfl, by decide +kernel, by decide +kernel⟩, by decide +kernel⟩
theorem b15 : ParOk d15.x d15.st d15.ps := fun _ _ _ _ _ _ us hl => match us, hl with | [_, _], _ => rfl
/-- _law_drawn -/
def c16 : CSs := (.cons (.par [6, 5] (.cons (.call 13 (.cons (.var 0) (.cons (.lit (.int 12)) .nil))) (.cons (.bin .sub (.var 5) (.lit (.int 1))) .nil)))
 (.cons (.ifs (.or (.cmp .lt (.var 2) (.lit (.int 2))) (.or (.cmp .lt (.var 6) (.lit (.int 2))) (.cmp .lt (.var 5) (.lit (.int 1)))))
 (.cons (.ret (.call 14 (.cons (.var 0) (.cons (.bin .add (.bin .mul (.lst (.cons (.tup (.cons (.lit (.str "sign")) (.cons (.call 13 (.cons (.var 0) (.cons (.var 1) .nil))) .nil))) .nil)) (.lit (.int 5))) (.lst (.cons (.tup (.cons (.lit (.str "empty")) .nil)) (.cons (.tup (.cons (.lit (.str "none")) .nil)) .nil)))) .nil))))
 .nil)
 .nil)
 (.cons (.ifs (.or (.cmp .lt (.var 2) (.lit (.int 3))) (.cmp .lt (.var 6) (.lit (.int 6))))
 (.cons (.asg (.nm 7) (.call 14 (.cons (.var 0) (.cons (.bin .add (.lst (.cons (.lit (.str "not")) (.cons (.lit (.str "again")) (.cons (.lit (.str "again")) .nil)))) (.bin .mul (.lst (.cons (.lit (.str "few")) (.cons (.lit (.str "take")) (.cons (.lit (.str "take")) .nil)))) (.bi .int (.cons (.nt (.var 3)) .nil)))) .nil))))
 (.cons (.ifs (.and (.cmp .eq (.var 7) (.lit (.str "take"))) (.cmp .ne (.var 4) (.lst .nil)))
 (.cons (.asg (.nm 8) (.meth .pop (.var 4) .nil))
 (.cons (.ret (.tup (.cons (.var 7) (.cons (.var 8) (.cons (.call 16 (.cons (.var 0) (.cons (.var 1) (.cons (.bin .sub (.var 2) (.lit (.int 1))) (.cons (.lit (.bl false)) (.cons (.var 4) (.cons (.var 5) .nil))))))) .nil)))))
 .nil))
 .nil)
 (.cons (.asg (.nm 7) (.ife (.cmp .eq (.var 7) (.lit (.str "take"))) (.lit (.str "again")) (.var 7)))
 (.cons (.ret (.tup (.cons (.var 7) (.cons (.call 16 (.cons (.var 0) (.cons (.var 1) (.cons (.bin .sub (.var 2) (.lit (.int 1))) (.cons (.or (.var 3) (.cmp .eq (.var 7) (.lit (.str "not")))) (.cons (.var 4) (.cons (.var 5) .nil))))))) .nil))))
 .nil))))
 .nil)
 (.cons (.par [7, 9] (.cons (.call 14 (.cons (.var 0) (.cons (.lst (.cons (.lit (.str "then")) (.cons (.lit (.str "then")) (.cons (.lit (.str "then")) (.cons (.lit (.str "or")) (.cons (.lit (.str "or")) (.cons (.lit (.str "both")) .nil))))))) .nil))) (.cons (.bin .add (.lit (.int 1)) (.call 13 (.cons (.var 0) (.cons (.bin .sub (.var 2) (.lit (.int 2))) .nil)))) .nil)))
 (.cons (.asg (.nm 10) (.call 16 (.cons (.var 0) (.cons (.var 1) (.cons (.var 9) (.cons (.or (.var 3) (.cmp .eq (.var 7) (.lit (.str "both")))) (.cons (.var 4) (.cons (.var 5) .nil))))))))
 (.cons (.ret (.tup (.cons (.var 7) (.cons (.var 10) (.cons (.call 16 (.cons (.var 0) (.cons (.var 1) (.cons (.bin .sub (.bin .sub (.var 2) (.lit (.int 1))) (.var 9)) (.cons (.or (.var 3) (.cmp .eq (.var 7) (.lit (.str "both")))) (.cons (.var 4) (.cons (.var 5) .nil))))))) .nil)))))
 .nil))))))
def d16 : Dd := { x := "_law_drawn", st := top 19, N := ["source", "many", "room", "is_inner", "names", "deep", "way", "word", "name", "first", "one"], ps := ["source", "many", "room", "is_inner", "names", "deep"], cs := c16, ds := [(.int 16)] }
theorem k16 : DdOk gl d16 := ⟨⟨rfl, rfl, rfl, by decide +kernel, rfl, by decide +kernel, by decide +kernel⟩, by decide +kernel⟩
theorem b16 : ParD d16.x d16.st d16.ps 1 := fun j hj T kV doc pm an cdv ct us its h1 h2 => by
  have h3 : us.length + (1 - j) = 6 := h1
  have hc : j = 0 ∨ j = 1 := by omega
  rcases hc with rfl | rfl
  · match us, its, h3, h2 with | [_, _, _, _, _], [_], _, _ => exact ⟨_, rfl, rfl⟩
  · match us, its, h3, h2 with | [_, _, _, _, _, _], [_], _, _ => exact ⟨_, rfl, rfl⟩
/-- _law_inner -/
def c17 : CSs := (.cons (.ret (.comp (.var 1) (.nm 1) (.val (.slc true false (.var 0) (.lit (.int 1)) (.lit .non))) (.isI .tup (.var 1)) [1]))
 .nil)
def d17 : Dd := { x := "_law_inner", st := top 20, N := ["pattern", "one"], ps := ["pattern"], cs := c17, ds := [] }
theorem k17 : DdOk gl d17 := ⟨⟨rfl, rfl, rfl, by decide +kernel, rfl, by decide +kernel, by decide +kernel⟩, by decide +kernel⟩
theorem b17 : ParOk d17.x d17.st d17.ps := fun _ _ _ _ _ _ us hl => match us, hl with | [_], _ => rfl
/-- _law_parts -/
def c18 : CSs := (.cons (.asg (.nm 1) (.lst (.cons (.var 0) .nil)))
 (.cons (.frr (.nm 2) (.val (.call 17 (.cons (.var 0) .nil)))
 (.cons (.asg (.nm 1) (.bin .add (.var 1) (.call 18 (.cons (.var 2) .nil))))
 .nil))
 (.cons (.ret (.var 1))
 .nil)))
def d18 : Dd := { x := "_law_parts", st := top 21, N := ["pattern", "found", "one"], ps := ["pattern"], cs := c18, ds := [] }
theorem k18 : DdOk gl d18 := ⟨⟨rfl, rfl, rfl, by decide +kernel, rfl, by decide +kernel, by decide +kernel⟩, by decide +kernel⟩
theorem b18 : ParOk d18.x d18.st d18.ps := fun _ _ _ _ _ _ us hl => match us, hl with | [_], _ => rfl
/-- _law_has_empty -/
def c19 : CSs := (.cons (.par [1, 2] (.cons (.idx (.var 0) (.lit (.int 0))) (.cons (.call 17 (.cons (.var 0) .nil)) .nil)))
 (.cons (.ifs (.cmp .isIn (.var 1) (.tup (.cons (.lit (.str "empty")) (.cons (.lit (.str "again")) (.cons (.lit (.str "few")) .nil)))))
 (.cons (.ret (.lit (.bl true)))
 .nil)
 .nil)
 (.cons (.ifs (.cmp .isIn (.var 1) (.tup (.cons (.lit (.str "none")) (.cons (.lit (.str "sign")) .nil))))
 (.cons (.ret (.lit (.bl false)))
 .nil)
 .nil)
 (.cons (.asg (.nm 3) (.comp (.call 19 (.cons (.var 4) .nil)) (.nm 4) (.val (.var 2)) (.lit (.bl true)) [4]))
 (.cons (.ifs (.cmp .eq (.var 1) (.lit (.str "not")))
 (.cons (.ret (.nt (.idx (.var 3) (.lit (.int 0)))))
 .nil)
 .nil)
 (.cons (.ret (.ife (.cmp .eq (.var 1) (.lit (.str "or"))) (.cmp .isIn (.lit (.bl true)) (.var 3)) (.cmp .notIn (.lit (.bl false)) (.var 3))))
 .nil))))))
def d19 : Dd := { x := "_law_has_empty", st := top 22, N := ["pattern", "word", "inner", "told", "one"], ps := ["pattern"], cs := c19, ds := [] }
theorem k19 : DdOk gl d19 := ⟨⟨rfl, rfl, rfl, by decide +kernel, rfl, by decide +kernel, by decide +kernel⟩, by decide +kernel⟩
theorem b19 : ParOk d19.x d19.st d19.ps := fun _ _ _ _ _ _ us hl => match us, hl with | [_], _ => rfl
/-- _law_changed -/
def c20 : CSs := (.cons (.asg (.nm 3) (.idx (.var 0) (.lit (.int 0))))
 (.cons (.asg (.nm 4) (.comp (.call 20 (.cons (.var 5) (.cons (.var 1) (.cons (.var 2) .nil)))) (.nm 5) (.val (.call 17 (.cons (.var 0) .nil))) (.lit (.bl true)) [5]))
 (.cons (.ifs (.cmp .eq (.var 3) (.lit (.str "sign")))
 (.cons (.ret (.ife (.cmp .eq (.var 1) (.lit (.int 2))) (.tup (.cons (.lit (.str "sign")) (.cons (.idx (.var 2) (.idx (.var 0) (.lit (.int 1)))) .nil))) (.var 0)))
 .nil)
 .nil)
 (.cons (.ifs (.and (.cmp .eq (.var 1) (.lit (.int 0))) (.cmp .isIn (.var 3) (.tup (.cons (.lit (.str "take")) (.cons (.lit (.str "few")) .nil)))))
 (.cons (.ret (.ife (.cmp .eq (.var 3) (.lit (.str "take"))) (.idx (.var 4) (.lit (.int 0))) (.tup (.cons (.lit (.str "again")) (.cons (.idx (.var 4) (.lit (.int 0))) .nil)))))
 .nil)
 .nil)
 (.cons (.ifs (.and (.cmp .eq (.var 1) (.lit (.int 1))) (.cmp .eq (.var 3) (.lit (.str "then"))))
 (.cons (.ret (.tup (.cons (.lit (.str "then")) (.cons (.idx (.var 4) (.lit (.int 1))) (.cons (.idx (.var 4) (.lit (.int 0))) .nil)))))
 .nil)
 .nil)
 (.cons (.ret (.ife (.cmp .eq (.var 3) (.lit (.str "take"))) (.bin .add (.slc false true (.var 0) (.lit .non) (.lit (.int 2))) (.tup (.cons (.idx (.var 4) (.lit (.int 0))) .nil))) (.bin .add (.tup (.cons (.var 3) .nil)) (.bi .tuple (.cons (.var 4) .nil)))))
 .nil))))))
def d20 : Dd := { x := "_law_changed", st := top 23, N := ["pattern", "way", "order", "word", "inner", "one"], ps := ["pattern", "way", "order"], cs := c20, ds := [] }
theorem k20 : DdOk gl d20 := ⟨⟨rfl, rfl, rfl, by decide +kernel, rfl, by decide +kernel, by decide +kernel⟩, by decide +kernel⟩
theorem b20 : ParOk d20.x d20.st d20.ps := fun _ _ _ _ _ _ us hl => match us, hl with | [_, _, _], _ => rfl
/-- _law_takes -/
def c21 : CSs := (.cons (.ret (.comp (.idx (.var 1) (.lit (.int 1))) (.nm 1) (.val (.call 18 (.cons (.var 0) .nil))) (.cmp .eq (.idx (.var 1) (.lit (.int 0))) (.lit (.str "take"))) [1]))
 .nil)
def d21 : Dd := { x := "_law_takes", st := top 24, N := ["pattern", "part"], ps := ["pattern"], cs := c21, ds := [] }
theorem k21 : DdOk gl d21 := ⟨⟨rfl, rfl, rfl, by decide +kernel, rfl, by decide +kernel, by decide +kernel⟩, by decide +kernel⟩
theorem b21 : ParOk d21.x d21.st d21.ps := fun _ _ _ _ _ _ us hl => match us, hl with | [_], _ => rfl
/-- _law_pattern_right -/
def c22 : CSs := (.cons (.par [3, 4, 5] (.cons (.call 18 (.cons (.var 2) .nil)) (.cons (.call 21 (.cons (.var 2) .nil)) (.cons (.bi .repr (.cons (.var 2) .nil)) .nil))))
 (.cons (.asg (.nm 6) (.lst (.cons (.call 1 (.cons (.var 2) .nil)) (.cons (.call 3 (.cons (.var 2) .nil)) .nil))))
 (.cons (.ifs (.cmp .ne (.bi .repr (.cons (.bin .add (.lst (.cons (.call 2 (.cons (.var 2) .nil)) .nil)) (.var 6)) .nil)) (.bi .repr (.cons (.lst (.cons (.bi .len (.cons (.var 3) .nil)) (.cons (.var 3) (.cons (.var 4) .nil)))) .nil)))
 (.cons (.ret (.lit (.bl false)))
 .nil)
 .nil)
 (.cons (.expr (.meth .append (.idx (.var 6) (.lit (.int 0))) (.cons (.lit .non) .nil)))
 (.cons (.expr (.meth .append (.idx (.var 6) (.lit (.int 1))) (.cons (.lit .non) .nil)))
 (.cons (.ifs (.cmp .ne (.bi .repr (.cons (.lst (.cons (.call 1 (.cons (.var 2) .nil)) (.cons (.call 3 (.cons (.var 2) .nil)) .nil))) .nil)) (.bi .repr (.cons (.lst (.cons (.var 3) (.cons (.var 4) .nil))) .nil)))
 (.cons (.ret (.lit (.bl false)))
 .nil)
 .nil)
 (.cons (.asg (.nm 7) (.cmp .eq (.comp (.var 8) (.nm 8) (.val (.var 3)) (.cmp .isIn (.idx (.var 8) (.lit (.int 0))) (.tup (.cons (.lit (.str "take")) (.cons (.lit (.str "few")) .nil)))) [8]) (.lst .nil)))
 (.cons (.ifs (.cmp .ne (.bi .repr (.cons (.lst (.cons (.call 4 (.cons (.var 2) .nil)) (.cons (.call 5 (.cons (.var 2) .nil)) .nil))) .nil)) (.bi .repr (.cons (.lst (.cons (.var 7) (.cons (.call 19 (.cons (.var 2) .nil)) .nil))) .nil)))
 (.cons (.ret (.lit (.bl false)))
 .nil)
 .nil)
 (.cons (.asg (.nm 9) (.bi .tuple (.cons (.call 15 (.cons (.var 0) (.cons (.lstR (.cons (.var 1) .nil)) .nil))) .nil)))
 (.cons (.asg (.nm 6) (.lst (.cons (.call 7 (.cons (.var 2) .nil)) (.cons (.call 8 (.cons (.var 2) .nil)) (.cons (.call 9 (.cons (.var 2) (.cons (.var 9) .nil))) .nil)))))
 (.cons (.ifs (.cmp .ne (.bi .repr (.cons (.var 6) .nil)) (.bi .repr (.cons (.comp (.call 20 (.cons (.var 2) (.cons (.var 10) (.cons (.var 9) .nil)))) (.nm 10) (.rng (.cons (.lit (.int 3)) .nil)) (.lit (.bl true)) [10]) .nil)))
 (.cons (.ret (.lit (.bl false)))
 .nil)
 .nil)
 (.cons (.ret (.and (.cmp .eq (.bi .repr (.cons (.lst (.cons (.call 8 (.cons (.idx (.var 6) (.lit (.int 1))) .nil)) (.cons (.call 4 (.cons (.idx (.var 6) (.lit (.int 0))) .nil)) .nil))) .nil)) (.bi .repr (.cons (.lst (.cons (.var 2) (.cons (.lit (.bl true)) .nil))) .nil))) (.cmp .eq (.bi .repr (.cons (.var 2) .nil)) (.var 5))))
 .nil))))))))))))
def d22 : Dd := { x := "_law_pattern_right", st := top 25, N := ["source", "many", "pattern", "parts", "names", "kept", "told", "is_bare", "part", "order", "way"], ps := ["source", "many", "pattern"], cs := c22, ds := [] }
theorem k22 : DdOk gl d22 := ⟨⟨rfl, rfl, rfl, by decide +kernel, rfl, by decide +kernel, by decide +kernel⟩, by decide +kernel⟩
theorem b22 : ParOk d22.x d22.st d22.ps := fun _ _ _ _ _ _ us hl => match us, hl with | [_, _, _], _ => rfl
/-- _law_history -/
def c23 : CSs := (.cons (.ret (.bi .tuple (.cons (.comp (.call 13 (.cons (.var 0) (.cons (.var 1) .nil))) (.nm 3) (.rng (.cons (.call 13 (.cons (.var 0) (.cons (.bin .add (.var 2) (.lit (.int 1))) .nil))) .nil)) (.lit (.bl true)) [3]) .nil)))
 .nil)
def d23 : Dd := { x := "_law_history", st := top 26, N := ["source", "many", "most", "moment"], ps := ["source", "many", "most"], cs := c23, ds := [] }
theorem k23 : DdOk gl d23 := ⟨⟨rfl, rfl, rfl, by decide +kernel, rfl, by decide +kernel, by decide +kernel⟩, by decide +kernel⟩
theorem b23 : ParOk d23.x d23.st d23.ps := fun _ _ _ _ _ _ us hl => match us, hl with | [_, _, _], _ => rfl
/-- law -/
def c24 : CSs := (.cons (.asg (.nm 1) (.call 12 (.cons (.var 0) .nil)))
 (.cons (.frr (.nm 2) (.rng (.cons (.lit (.int 5)) .nil))
 (.cons (.asg (.tp [3, 4]) (.tup (.cons (.bin .add (.lit (.int 1)) (.call 13 (.cons (.var 1) (.cons (.lit (.int 4)) .nil)))) (.cons (.call 14 (.cons (.var 1) (.cons (.lst (.cons (.lit (.int 1)) (.cons (.lit (.int 3)) (.cons (.lit (.int 6)) (.cons (.lit (.int 12)) (.cons (.lit (.int 40)) .nil)))))) .nil))) .nil))))
 (.cons (.asg (.nm 5) (.call 16 (.cons (.var 1) (.cons (.var 3) (.cons (.var 4) (.cons (.lit (.bl false)) (.cons (.call 15 (.cons (.var 1) (.cons (.lst (.cons (.lit (.str "x")) (.cons (.lit (.str "y2")) (.cons (.lit (.str "cap")) (.cons (.lit (.str "none2")) (.cons (.lit (.str "a23456789012")) .nil)))))) .nil))) (.cons (.lit (.int 16)) .nil))))))))
 (.cons (.ifs (.nt (.call 22 (.cons (.var 1) (.cons (.var 3) (.cons (.var 5) .nil)))))
 (.cons (.ret (.lit (.bl false)))
 .nil)
 .nil)
 (.cons (.asg (.nm 6) (.comp (.call 23 (.cons (.var 1) (.cons (.var 3) (.cons (.call 14 (.cons (.var 1) (.cons (.lst (.cons (.lit (.int 0)) (.cons (.lit (.int 3)) (.cons (.lit (.int 60)) .nil)))) .nil))) .nil)))) (.nm 7) (.rng (.cons (.call 13 (.cons (.var 1) (.cons (.lit (.int 4)) .nil))) .nil)) (.lit (.bl true)) [7]))
 (.cons (.asg (.nm 8) (.tup .nil))
 (.cons (.frr (.nm 9) (.val (.var 6))
 (.cons (.asg (.nm 8) (.bin .add (.var 8) (.var 9)))
 .nil))
 (.cons (.ifs (.cmp .ne (.bi .repr (.cons (.lst (.cons (.call 10 (.cons (.var 6) .nil)) (.cons (.call 10 (.cons (.bi .tuple (.cons (.var 6) .nil)) .nil)) .nil))) .nil)) (.bi .repr (.cons (.lst (.cons (.var 8) (.cons (.var 8) .nil))) .nil)))
 (.cons (.ret (.lit (.bl false)))
 .nil)
 .nil)
 (.cons (.ifs (.cmp .ne (.bi .repr (.cons (.comp (.call 11 (.cons (.var 9) .nil)) (.nm 9) (.val (.var 6)) (.lit (.bl true)) [9]) .nil)) (.bi .repr (.cons (.comp (.rev (.var 9)) (.nm 9) (.val (.var 6)) (.lit (.bl true)) [9]) .nil)))
 (.cons (.ret (.lit (.bl false)))
 .nil)
 .nil)
 .nil)))))))))
 (.cons (.asg (.nm 10) (.tup (.cons (.lit (.str "then")) (.cons (.tup (.cons (.lit (.str "take")) (.cons (.lit (.str "x")) (.cons (.tup (.cons (.lit (.str "few")) (.cons (.tup (.cons (.lit (.str "sign")) (.cons (.lit (.int 0)) .nil))) .nil))) .nil)))) (.cons (.tup (.cons (.lit (.str "not")) (.cons (.tup (.cons (.lit (.str "both")) (.cons (.tup (.cons (.lit (.str "empty")) .nil)) (.cons (.tup (.cons (.lit (.str "again")) (.cons (.tup (.cons (.lit (.str "none")) .nil)) .nil))) .nil)))) .nil))) .nil)))))
 (.cons (.asg (.nm 11) (.lst (.cons (.call 7 (.cons (.var 10) .nil)) (.cons (.call 8 (.cons (.var 10) .nil)) (.cons (.call 2 (.cons (.var 10) .nil)) (.cons (.call 5 (.cons (.var 10) .nil)) .nil))))))
 (.cons (.asg (.nm 12) (.lst (.cons (.tup (.cons (.lit (.str "then")) (.cons (.tup (.cons (.lit (.str "again")) (.cons (.tup (.cons (.lit (.str "sign")) (.cons (.lit (.int 0)) .nil))) .nil))) (.cons (.idx (.var 10) (.lit (.int 2))) .nil)))) (.cons (.tup (.cons (.lit (.str "then")) (.cons (.idx (.var 10) (.lit (.int 2))) (.cons (.idx (.var 10) (.lit (.int 1))) .nil)))) (.cons (.lit (.int 9)) (.cons (.lit (.bl false)) .nil))))))
 (.cons (.ret (.cmp .eq (.bi .repr (.cons (.var 11) .nil)) (.bi .repr (.cons (.var 12) .nil))))
 .nil))))))
def d24 : Dd := { x := "law", st := top 27, N := ["script", "source", "lap", "many", "room", "pattern", "some", "look", "whole", "history", "late", "told", "due"], ps := ["script"], cs := c24, ds := [] }
theorem k24 : DdOk gl d24 := ⟨⟨rfl, rfl, rfl, by decide +kernel, rfl, by decide +kernel, by decide +kernel⟩, by decide +kernel⟩
theorem b24 : ParOk d24.x d24.st d24.ps := fun _ _ _ _ _ _ us hl => match us, hl with | [_], _ => rfl
def D : List Dd := [d0, d1, d2, d3, d4, d5, d6, d7, d8, d9, d10, d11, d12, d13, d14, d15, d16, d17, d18, d19, d20, d21, d22, d23, d24]
def P : List Fn := progOf D
theorem kD : AllOk (DdOk gl) D := ⟨k0, k1, k2, k3, k4, k5, k6, k7, k8, k9, k10, k11, k12, k13, k14, k15, k16, k17, k18, k19, k20, k21, k22, k23, k24, trivial⟩
end Lk
namespace Lk
open EV
theorem txt : K01.TxtL (progOf D) := ⟨⟨rfl, rfl, rfl, rfl, rfl, rfl, rfl, rfl, rfl, rfl, rfl, rfl, rfl, rfl, rfl, rfl, rfl, rfl, rfl, rfl, rfl, rfl, rfl, rfl⟩, rfl⟩
theorem law_true : ∀ ns : List Int, ns.length ≤ 63 → ∃ h, run (progOf D) 1000000 60 24 [.fl (ns.map .int)] [] = some (.bl true, h) := fun ns hn => K01.law_ok (d := 58) txt (by decide) (by decide) hn
end Lk

open PySem PySem.W PyProof.Rows
set_option maxRecDepth 100000 in
set_option maxHeartbeats 0 in
theorem PySem.Challenge.cw_turnsorsays_k01_parts_of_patterns_holds : PySem.Challenge.rw_turnsorsays_k01_parts_of_patterns.Holds := by
  w_on; o_law; k_head; (case hw => w_witness2)
  k_fill
  refine EV.law_end (l := PySem.Challenge.rw_turnsorsays_k01_parts_of_patterns) (gl := Lk.gl) (fu := 1000000) (k := 60) (i := 24) (D := Lk.D) (x := "script") (dd := Lk.d24) rfl (by decide) (by decide +kernel) rfl ⟨rfl, by decide, by decide⟩ (fun w h Y => by first | exact PySem.W.kIn_of Y | exact PySem.W.km_in_of Y) rfl rfl rfl ?T Lk.law_true
  case T =>
    intro w mg h KX G
    refine' (fun e0 : EV.DefAt _ Lk.d0 => ?n0) (EV.def_mk Lk.b0 rfl KX ?a0 ?l0 ?c0 ?k0)
    (case a0 => k_is); (case l0 => k_is); (case c0 => k_is); (case k0 => k_is)
    refine' (fun e1 : EV.DefAt _ Lk.d1 => ?n1) (EV.def_mk Lk.b1 rfl KX ?a1 ?l1 ?c1 ?k1)
    (case a1 => k_is); (case l1 => k_is); (case c1 => k_is); (case k1 => k_is)
    refine' (fun e2 : EV.DefAt _ Lk.d2 => ?n2) (EV.def_mk Lk.b2 rfl KX ?a2 ?l2 ?c2 ?k2)
    (case a2 => k_is); (case l2 => k_is); (case c2 => k_is); (case k2 => k_is)
    refine' (fun e3 : EV.DefAt _ Lk.d3 => ?n3) (EV.def_mk Lk.b3 rfl KX ?a3 ?l3 ?c3 ?k3)
    (case a3 => k_is); (case l3 => k_is); (case c3 => k_is); (case k3 => k_is)
    refine' (fun e4 : EV.DefAt _ Lk.d4 => ?n4) (EV.def_mk Lk.b4 rfl KX ?a4 ?l4 ?c4 ?k4)
    (case a4 => k_is); (case l4 => k_is); (case c4 => k_is); (case k4 => k_is)
    refine' (fun e5 : EV.DefAt _ Lk.d5 => ?n5) (EV.def_mk Lk.b5 rfl KX ?a5 ?l5 ?c5 ?k5)
    (case a5 => k_is); (case l5 => k_is); (case c5 => k_is); (case k5 => k_is)
    refine' (fun e6 : EV.DefAt _ Lk.d6 => ?n6) (EV.def_mk Lk.b6 rfl KX ?a6 ?l6 ?c6 ?k6)
    (case a6 => k_is); (case l6 => k_is); (case c6 => k_is); (case k6 => k_is)
    refine' (fun e7 : EV.DefAt _ Lk.d7 => ?n7) (EV.def_mk Lk.b7 rfl KX ?a7 ?l7 ?c7 ?k7)
    (case a7 => k_is); (case l7 => k_is); (case c7 => k_is); (case k7 => k_is)
    refine' (fun e8 : EV.DefAt _ Lk.d8 => ?n8) (EV.def_mk Lk.b8 rfl KX ?a8 ?l8 ?c8 ?k8)
    (case a8 => k_is); (case l8 => k_is); (case c8 => k_is); (case k8 => k_is)
    refine' (fun e9 : EV.DefAt _ Lk.d9 => ?n9) (EV.def_mk Lk.b9 rfl KX ?a9 ?l9 ?c9 ?k9)
    (case a9 => k_is); (case l9 => k_is); (case c9 => k_is); (case k9 => k_is)
    refine' (fun e10 : EV.DefAt _ Lk.d10 => ?n10) (EV.def_mk Lk.b10 rfl KX ?a10 ?l10 ?c10 ?k10)
    (case a10 => k_is); (case l10 => k_is); (case c10 => k_is); (case k10 => k_is)
    refine' (fun e11 : EV.DefAt _ Lk.d11 => ?n11) (EV.def_mk Lk.b11 rfl KX ?a11 ?l11 ?c11 ?k11)
    (case a11 => k_is); (case l11 => k_is); (case c11 => k_is); (case k11 => k_is)
    refine' (fun e12 : EV.DefAt _ Lk.d12 => ?n12) (EV.def_mk Lk.b12 rfl KX ?a12 ?l12 ?c12 ?k12)
    (case a12 => k_is); (case l12 => k_is); (case c12 => k_is); (case k12 => k_is)
    refine' (fun e13 : EV.DefAt _ Lk.d13 => ?n13) (EV.def_mk Lk.b13 rfl KX ?a13 ?l13 ?c13 ?k13)
    (case a13 => k_is); (case l13 => k_is); (case c13 => k_is); (case k13 => k_is)
    refine' (fun e14 : EV.DefAt _ Lk.d14 => ?n14) (EV.def_mk Lk.b14 rfl KX ?a14 ?l14 ?c14 ?k14)
    (case a14 => k_is); (case l14 => k_is); (case c14 => k_is); (case k14 => k_is)
    refine' (fun e15 : EV.DefAt _ Lk.d15 => ?n15) (EV.def_mk Lk.b15 rfl KX ?a15 ?l15 ?c15 ?k15)
    (case a15 => k_is); (case l15 => k_is); (case c15 => k_is); (case k15 => k_is)
    refine' (fun e16 : EV.DefAt _ Lk.d16 => ?n16) (EV.defD_mk Lk.b16 rfl (by decide) KX ?a16 ?l16 ?c16 ?k16 ?t16 ?u16 ?v16)
    (case a16 => k_is); (case l16 => k_is); (case c16 => k_is); (case k16 => k_is)
    (case t16 => k_is); (case u16 => rfl); (case v16 => exact ⟨EV.kv_int, trivial⟩)
    refine' (fun e17 : EV.DefAt _ Lk.d17 => ?n17) (EV.def_mk Lk.b17 rfl KX ?a17 ?l17 ?c17 ?k17)
    (case a17 => k_is); (case l17 => k_is); (case c17 => k_is); (case k17 => k_is)
    refine' (fun e18 : EV.DefAt _ Lk.d18 => ?n18) (EV.def_mk Lk.b18 rfl KX ?a18 ?l18 ?c18 ?k18)
    (case a18 => k_is); (case l18 => k_is); (case c18 => k_is); (case k18 => k_is)
    refine' (fun e19 : EV.DefAt _ Lk.d19 => ?n19) (EV.def_mk Lk.b19 rfl KX ?a19 ?l19 ?c19 ?k19)
    (case a19 => k_is); (case l19 => k_is); (case c19 => k_is); (case k19 => k_is)
    refine' (fun e20 : EV.DefAt _ Lk.d20 => ?n20) (EV.def_mk Lk.b20 rfl KX ?a20 ?l20 ?c20 ?k20)
    (case a20 => k_is); (case l20 => k_is); (case c20 => k_is); (case k20 => k_is)
    refine' (fun e21 : EV.DefAt _ Lk.d21 => ?n21) (EV.def_mk Lk.b21 rfl KX ?a21 ?l21 ?c21 ?k21)
    (case a21 => k_is); (case l21 => k_is); (case c21 => k_is); (case k21 => k_is)
    refine' (fun e22 : EV.DefAt _ Lk.d22 => ?n22) (EV.def_mk Lk.b22 rfl KX ?a22 ?l22 ?c22 ?k22)
    (case a22 => k_is); (case l22 => k_is); (case c22 => k_is); (case k22 => k_is)
    refine' (fun e23 : EV.DefAt _ Lk.d23 => ?n23) (EV.def_mk Lk.b23 rfl KX ?a23 ?l23 ?c23 ?k23)
    (case a23 => k_is); (case l23 => k_is); (case c23 => k_is); (case k23 => k_is)
    refine' (fun e24 : EV.DefAt _ Lk.d24 => ?n24) (EV.def_mk Lk.b24 rfl KX ?a24 ?l24 ?c24 ?k24)
    (case a24 => k_is); (case l24 => k_is); (case c24 => k_is); (case k24 => k_is)
    refine' (fun w_INNER => ?g_INNER) (EV.gl_kd (w := w) (x := "INNER") (kvs := [("none", (.tup [])), ("empty", (.tup [])), ("sign", (.tup [])), ("then", (.tup [(.int 1), (.int 2)])), ("or", (.tup [(.int 1), (.int 2)])), ("both", (.tup [(.int 1), (.int 2)])), ("not", (.tup [(.int 1)])), ("again", (.tup [(.int 1)])), ("few", (.tup [(.int 1)])), ("take", (.tup [(.int 2)]))]) KX G ?e_INNER ?l_INNER ?h_INNER ?k_INNER)
    (case e_INNER => k_is)
    (case l_INNER => k_is)
    (case h_INNER => exact ⟨⟨_, _, rfl, rfl⟩, ⟨_, _, rfl, rfl⟩, ⟨_, _, rfl, rfl⟩, ⟨_, _, rfl, rfl⟩, ⟨_, _, rfl, rfl⟩, ⟨_, _, rfl, rfl⟩, ⟨_, _, rfl, rfl⟩, ⟨_, _, rfl, rfl⟩, ⟨_, _, rfl, rfl⟩, ⟨_, _, rfl, rfl⟩, trivial⟩)
    case' k_INNER => refine' EV.KDs.cons ?r1 ?s1 (EV.KDs.cons ?r2 ?s2 (EV.KDs.cons ?r3 ?s3 (EV.KDs.cons ?r4 ?s4 (EV.KDs.cons ?r5 ?s5 (EV.KDs.cons ?r6 ?s6 (EV.KDs.cons ?r7 ?s7 (EV.KDs.cons ?r8 ?s8 (EV.KDs.cons ?r9 ?s9 (EV.KDs.cons ?r10 ?s10 (trivial))))))))))
    (case r1 => k_is)
    case' s1 => refine' EV.kv_tup ?q11l ?q11c ?q11d ?q11z ?q11v
    (case q11l => k_is)
    (case q11c => rfl)
    (case q11d => rfl)
    (case q11z => decide)
    (case q11v => trivial)
    (case r2 => k_is)
    case' s2 => refine' EV.kv_tup ?q12l ?q12c ?q12d ?q12z ?q12v
    (case q12l => k_is)
    (case q12c => rfl)
    (case q12d => rfl)
    (case q12z => decide)
    (case q12v => trivial)
    (case r3 => k_is)
    case' s3 => refine' EV.kv_tup ?q13l ?q13c ?q13d ?q13z ?q13v
    (case q13l => k_is)
    (case q13c => rfl)
    (case q13d => rfl)
    (case q13z => decide)
    (case q13v => trivial)
    (case r4 => k_is)
    case' s4 => refine' EV.kv_tup ?q14l ?q14c ?q14d ?q14z ?q14v
    (case q14l => k_is)
    (case q14c => rfl)
    (case q14d => rfl)
    (case q14z => decide)
    case' q14v => refine' ⟨(EV.kv_int), (EV.kv_int), trivial⟩
    (case r5 => k_is)
    case' s5 => refine' EV.kv_tup ?q15l ?q15c ?q15d ?q15z ?q15v
    (case q15l => k_is)
    (case q15c => rfl)
    (case q15d => rfl)
    (case q15z => decide)
    case' q15v => refine' ⟨(EV.kv_int), (EV.kv_int), trivial⟩
    (case r6 => k_is)
    case' s6 => refine' EV.kv_tup ?q16l ?q16c ?q16d ?q16z ?q16v
    (case q16l => k_is)
    (case q16c => rfl)
    (case q16d => rfl)
    (case q16z => decide)
    case' q16v => refine' ⟨(EV.kv_int), (EV.kv_int), trivial⟩
    (case r7 => k_is)
    case' s7 => refine' EV.kv_tup ?q17l ?q17c ?q17d ?q17z ?q17v
    (case q17l => k_is)
    (case q17c => rfl)
    (case q17d => rfl)
    (case q17z => decide)
    case' q17v => refine' ⟨(EV.kv_int), trivial⟩
    (case r8 => k_is)
    case' s8 => refine' EV.kv_tup ?q18l ?q18c ?q18d ?q18z ?q18v
    (case q18l => k_is)
    (case q18c => rfl)
    (case q18d => rfl)
    (case q18z => decide)
    case' q18v => refine' ⟨(EV.kv_int), trivial⟩
    (case r9 => k_is)
    case' s9 => refine' EV.kv_tup ?q19l ?q19c ?q19d ?q19z ?q19v
    (case q19l => k_is)
    (case q19c => rfl)
    (case q19d => rfl)
    (case q19z => decide)
    case' q19v => refine' ⟨(EV.kv_int), trivial⟩
    (case r10 => k_is)
    case' s10 => refine' EV.kv_tup ?q20l ?q20c ?q20d ?q20z ?q20v
    (case q20l => k_is)
    (case q20c => rfl)
    (case q20d => rfl)
    (case q20z => decide)
    case' q20v => refine' ⟨(EV.kv_int), trivial⟩
    refine' EV.top_mk KX G Lk.kD ⟨e0, e1, e2, e3, e4, e5, e6, e7, e8, e9, e10, e11, e12, e13, e14, e15, e16, e17, e18, e19, e20, e21, e22, e23, e24, trivial⟩ (by decide +kernel) ⟨w_INNER, trivial, trivial, trivial, trivial, trivial, trivial, trivial, trivial, trivial, trivial, trivial, trivial, trivial, trivial, trivial, trivial, trivial, trivial, trivial, trivial, trivial, trivial, trivial, trivial, trivial, trivial⟩ (EV.noB KX G ?z0 ?z1 ?z2 ?z3 ?z4 ?z5 ?z6 ?z7 ?z8 ?z9 ?z10 ?z11 ?z12 ?z13 ?z14 ?z15 ?z16 ?z17 ?z18 ?z19)
    (case z0 => k_is); (case z1 => k_is); (case z2 => k_is); (case z3 => k_is); (case z4 => k_is); (case z5 => k_is); (case z6 => k_is); (case z7 => k_is); (case z8 => k_is); (case z9 => k_is); (case z10 => k_is); (case z11 => k_is); (case z12 => k_is); (case z13 => k_is); (case z14 => k_is); (case z15 => k_is); (case z16 => k_is); (case z17 => k_is); (case z18 => k_is); (case z19 => k_is)
