import PyProof.Rows.All
import Wide.All
import OpenK.AllK
import Wide.FinOn
import HandS.ForMost
import HandS.ForExc
import HandS.HeadHook2
import HandS.Flow
import HandS.Deep
import HandS.TupAny
import HandS.TupMul
import HandS.Wide
import HandS.CallSlots
import HandS.IsInst
import HandS.TryMany
import HandS.SuiteRaise
import HandS.Strs
import HandS.ExcSuper
import HandS.ExcField
import HandS.TryOnly
import HandS.ExcOwn
import HandS.Ends
import KE.KExcInit
import HandS.Conv
import HandS.WordsExc
import KE.GoesMore
import KE.GoesEnum
import HandS.Style
import HandS.HeadEnd
import HandS.HeadHook4
import KE.KStateDown
import HandS.Head0
import HandS.Head1
import HandS.Head2
import PySem.Challenge.RW_selflead_k31_whole_worths
set_option Elab.async false
set_option linter.all false
set_option maxRecDepth 100000
set_option maxHeartbeats 1000000
/-! RFa: shallow programs over plain data, and what they mean for the hand layer: values D, written objects O, an expression's program E1, a statement's S1; the readings tE, tA, tT, tN, tS. -/
namespace RF
open PySem PySem.Spec PyProof.Rows L2

/-- values: tuples and lists that nobody writes are trees (frz: a list that stands from before, the script; pr: a pair that an iterator yields); ref i: the i-th written object; cst: a constant of the top -/
inductive D where
  | non | bl (b : Bool) | int (i : Int) | str (x : Str)
  | tup (l : List D) | lst (l : List D)
  | frz (l : List D) | pr (l : List D)
  | ref (i : Nat)
  | cst (v : V)
/-- written objects -/
inductive O where
  | lst (l : List D)
  | dct (kvs : List (Key × D))
  | ins (C : Str) (fs : List (Str × D))
abbrev AH := List O
abbrev SL := List (Option D)
/-- an exception: its class by name, its own fields -/
structure Exn where
  cls : Str
  fs : List (Str × D)
/-- an expression's end -/
inductive R (α : Type) where
  | ok (a : α) (h : AH)
  | exc (x : Exn) (h : AH)
  | stuck
abbrev E1 (α : Type) := SL → AH → R α
/-- a statement's end -/
inductive SR where
  | nx (σ : SL) (h : AH) | rt (d : D) (h : AH) | bk (σ : SL) (h : AH) | ct (σ : SL) (h : AH) | exc (x : Exn) (σ : SL) (h : AH) | stuck
abbrev S1 := SL → AH → SR
def R.bind {α β : Type} (r : R α) (f : α → AH → R β) : R β := match r with
  | .ok a h => f a h
  | .exc x h => .exc x h
  | .stuck => .stuck

/-! ### values and the abstract heap -/
/-- written in K: a list, a tuple of the top -/
def KwL (K : PySem.W.Frag) (a : Addr) (xs : List V) : Prop := ∃ (o : Obj) (its : Array Value) (n : Nat), K.lookup a = some o ∧ o.cls = .type "list" ∧ o.dict = none ∧ o.data = .seq its n ∧ its.size ≤ sizeLine ∧ Vals xs its.toList
def KwT (K : PySem.W.Frag) (a : Addr) (xs : List V) : Prop := ∃ (o : Obj) (its : Array Value) (n : Nat), K.lookup a = some o ∧ o.cls = .type "tuple" ∧ o.dict = none ∧ o.data = .seq its n ∧ its.size ≤ sizeLine ∧ Vals xs its.toList
theorem KwT.sq {K : PySem.W.Frag} {H : Hp} {a : Addr} {xs : List V} (h : KwT K a xs) : SqT K H a xs := by
  obtain ⟨o, its, n, h1, h2, _, h4, h5, h6⟩ := h
  exact .inr ⟨o, its, n, h1, h2, h4, h5, h6⟩
/-- a plain tuple's object -/
def TF (o : Obj) : Prop := o.cls = .type "tuple" ∧ o.dict = none
inductive Nk where
  | tup | lst | frz | pr
/-- what stands at a node -/
def NkOk : Nk → HO → List V → Prop
  | .tup, u, vs => ∃ o, u = .frz o (.tup vs) ∧ TF o
  | .lst, u, vs => u = .lst vs
  | .frz, u, vs => u = .lst vs ∨ ∃ o, u = .frz o (.lst vs)
  | .pr, u, vs => u = .tup vs
def Kw (K : PySem.W.Frag) : Nk → Addr → List V → Prop
  | .tup, a, vs => KwT K a vs
  | .frz, a, vs => KwL K a vs
  | _, _, _ => False
/-- the written part; addresses that no tree stands at -/
abbrev Jt := Option (Value × Option Addr × Exn)
/-- .. and the exception that is handled (its class, its dict, what it is) -/
structure Zt where
  K : PySem.W.Frag
  B : Addr → Prop
  j : Jt
structure Kj where
  K : PySem.W.Frag
  j : Jt
def Zt.bar (Z : Zt) (p : Addr) : Zt := ⟨Z.K, fun a => a = p ∨ Z.B a, Z.j⟩
section
variable (Z : Zt) (η : Nat → Addr) (n : Nat) (H : Hp)
/-- a tree's node at a: tracked, apart from what is written; or of the top -/
def Nd (k : Nk) (a : Addr) (vs : List V) : Prop := (∃ u, H a = some u ∧ NkOk k u vs ∧ (∀ i, i < n → η i ≠ a) ∧ ¬ Z.B a) ∨ Kw Z.K k a vs
mutual
def RV : D → V → Prop
  | .non, v => v = .non
  | .bl b, v => v = .bl b
  | .int i, v => v = .int i
  | .str x, v => v = .str x
  | .tup l, v => ∃ a vs, v = .ref a ∧ Nd Z η n H .tup a vs ∧ RVs l vs
  | .lst l, v => ∃ a vs, v = .ref a ∧ Nd Z η n H .lst a vs ∧ RVs l vs
  | .frz l, v => ∃ a vs, v = .ref a ∧ Nd Z η n H .frz a vs ∧ RVs l vs
  | .pr l, v => ∃ a vs, v = .ref a ∧ Nd Z η n H .pr a vs ∧ RVs l vs
  | .ref i, v => v = .ref (η i) ∧ i < n
  | .cst c, v => v = c
def RVs : List D → List V → Prop
  | [], vs => vs = []
  | d :: l, vs => ∃ v r, vs = v :: r ∧ RV d v ∧ RVs l r
end
/-- fields, entries -/
def RFs : List (Str × D) → List (Str × V) → Prop
  | [], ws => ws = []
  | (f, d) :: l, ws => ∃ v r, ws = (f, v) :: r ∧ RV Z η n H d v ∧ RFs l r
def RKs : List (Key × D) → List (Key × V) → Prop
  | [], ws => ws = []
  | (f, d) :: l, ws => ∃ v r, ws = (f, v) :: r ∧ RV Z η n H d v ∧ RKs l r
def RO : O → HO → Prop
  | .lst l, u => ∃ vs, u = .lst vs ∧ RVs Z η n H l vs
  | .dct l, u => ∃ vs, u = .dK vs ∧ RKs Z η n H l vs
  | .ins C fs, u => ∃ dx ws, u = .ins (He.ga Z.K C) dx ws ∧ RFs Z η n H fs ws
def RX (x : Exn) (cls : Value) (d : Option Addr) : Prop := cls = .ref (He.ga Z.K x.cls) ∧ ((x.fs = [] ∧ d = none) ∨ ∃ a ws, d = some a ∧ H a = some (.xd ws) ∧ (∀ i, i < n → η i ≠ a) ∧ ¬ Z.B a ∧ RFs Z η n H x.fs ws)
/-- slots -/
def RS (σ : SL) (σV : L2.St) : Prop := σ.length = σV.length ∧ ∀ (i : Nat) (d : D), σ[i]? = some (some d) → ∃ v, σV[i]? = some (some v) ∧ RV Z η n H d v
end
/-- the written objects stand, each at its own address -/
structure RH (Z : Zt) (η : Nat → Addr) (h : AH) (H : Hp) : Prop where
  obj : ∀ (i : Nat) (o : O), h[i]? = some o → ∃ u, H (η i) = some u ∧ RO Z η h.length H o u
  inj : ∀ i j, i < h.length → j < h.length → η i = η j → i = j
  bad : ∀ a, Z.B a → ∃ o, H a = some o
  jx : ∀ cls d x, Z.j = some (cls, d, x) → RX Z η h.length H x cls d
/-- from one state to a later one -/
structure Stp (η : Nat → Addr) (n : Nat) (H : Hp) (η' : Nat → Addr) (n' : Nat) (H' : Hp) : Prop where
  le : n ≤ n'
  agree : ∀ i, i < n → η' i = η i
  keep : ∀ a o, H a = some o → (∀ i, i < n → η i ≠ a) → H' a = some o
  there : ∀ a o, H a = some o → ∃ o', H' a = some o'
  fresh : ∀ i, n ≤ i → i < n' → H (η' i) = none
section
variable {Z : Zt} {η η' η2 : Nat → Addr} {n n' n2 : Nat} {H H' H2 : Hp}
theorem Stp.refl : Stp η n H η n H := ⟨Nat.le_refl _, fun _ _ => rfl, fun _ _ h _ => h, fun a o h => ⟨o, h⟩, fun i h1 h2 => absurd h2 (Nat.not_lt.mpr h1)⟩
theorem Stp.none_back (s : Stp η n H η' n' H') {a : Addr} (h : H' a = none) : H a = none := by
  cases e : H a with
  | none => rfl
  | some o =>
    obtain ⟨o', e'⟩ := s.there a o e
    rw [h] at e'; cases e'
theorem Stp.trans (s : Stp η n H η' n' H') (t : Stp η' n' H' η2 n2 H2) : Stp η n H η2 n2 H2 where
  le := Nat.le_trans s.le t.le
  agree := fun i hi => (t.agree i (Nat.lt_of_lt_of_le hi s.le)).trans (s.agree i hi)
  keep := fun a o h ha => by
    refine t.keep a o (s.keep a o h ha) fun i hi => ?_
    by_cases hn : i < n
    · rw [s.agree i hn]; exact ha i hn
    · intro e
      have f := s.fresh i (Nat.not_lt.mp hn) hi
      rw [e, h] at f; cases f
  there := fun a o h => by
    obtain ⟨o', h'⟩ := s.there a o h
    exact t.there a o' h'
  fresh := fun i h1 h2 => by
    by_cases hn : i < n'
    · have e := s.fresh i h1 hn
      rw [t.agree i hn]; exact e
    · exact s.none_back (t.fresh i (Nat.not_lt.mp hn) h2)
theorem Stp.apart (s : Stp η n H η' n' H') {a : Addr} {u : HO} (h : H a = some u) (ha : ∀ i, i < n → η i ≠ a) : ∀ i, i < n' → η' i ≠ a := fun i hi => by
  by_cases hn : i < n
  · rw [s.agree i hn]; exact ha i hn
  · intro e
    have f := s.fresh i (Nat.not_lt.mp hn) hi
    rw [e, h] at f; cases f
theorem Nd.step (s : Stp η n H η' n' H') {k : Nk} {a : Addr} {vs : List V} (q : Nd Z η n H k a vs) : Nd Z η' n' H' k a vs := by
  rcases q with ⟨u, q1, q2, q3, q4⟩ | q
  · exact .inl ⟨u, s.keep _ _ q1 q3, q2, s.apart q1 q3, q4⟩
  · exact .inr q
/- whatever turns nodes turns trees -/
mutual
theorem RV.turn {Z Z' : Zt} {η η' : Nat → Addr} {n n' : Nat} {H H' : Hp} (hk : ∀ k a vs, Nd Z η n H k a vs → Nd Z' η' n' H' k a vs) (hr : ∀ i, i < n → η' i = η i ∧ i < n') : ∀ (d : D) (v : V), RV Z η n H d v → RV Z' η' n' H' d v
  | .non, v, h => by unfold RV at h ⊢; exact h
  | .bl b, v, h => by unfold RV at h ⊢; exact h
  | .int i, v, h => by unfold RV at h ⊢; exact h
  | .str x, v, h => by unfold RV at h ⊢; exact h
  | .tup l, v, h => by
    unfold RV at h ⊢
    obtain ⟨a, vs, e, q, r⟩ := h
    exact ⟨a, vs, e, hk _ a vs q, RVs.turn hk hr l vs r⟩
  | .lst l, v, h => by
    unfold RV at h ⊢
    obtain ⟨a, vs, e, q, r⟩ := h
    exact ⟨a, vs, e, hk _ a vs q, RVs.turn hk hr l vs r⟩
  | .frz l, v, h => by
    unfold RV at h ⊢
    obtain ⟨a, vs, e, q, r⟩ := h
    exact ⟨a, vs, e, hk _ a vs q, RVs.turn hk hr l vs r⟩
  | .pr l, v, h => by
    unfold RV at h ⊢
    obtain ⟨a, vs, e, q, r⟩ := h
    exact ⟨a, vs, e, hk _ a vs q, RVs.turn hk hr l vs r⟩
  | .ref i, v, h => by
    unfold RV at h ⊢
    exact ⟨by rw [(hr i h.2).1]; exact h.1, (hr i h.2).2⟩
  | .cst c, v, h => by unfold RV at h ⊢; exact h
theorem RVs.turn {Z Z' : Zt} {η η' : Nat → Addr} {n n' : Nat} {H H' : Hp} (hk : ∀ k a vs, Nd Z η n H k a vs → Nd Z' η' n' H' k a vs) (hr : ∀ i, i < n → η' i = η i ∧ i < n') : ∀ (l : List D) (vs : List V), RVs Z η n H l vs → RVs Z' η' n' H' l vs
  | [], vs, h => by unfold RVs at h ⊢; exact h
  | d :: l, vs, h => by
    unfold RVs at h ⊢
    obtain ⟨v, r, e, h1, h2⟩ := h
    exact ⟨v, r, e, RV.turn hk hr d v h1, RVs.turn hk hr l r h2⟩
end
/-- a turning of trees -/
structure Trn (Z : Zt) (η : Nat → Addr) (n : Nat) (H : Hp) (Z' : Zt) (η' : Nat → Addr) (n' : Nat) (H' : Hp) : Prop where
  K : Z'.K = Z.K
  v : ∀ (d : D) (v : V), RV Z η n H d v → RV Z' η' n' H' d v
  vs : ∀ (l : List D) (vs : List V), RVs Z η n H l vs → RVs Z' η' n' H' l vs
theorem Trn.of {Z Z' : Zt} (k : Z'.K = Z.K) (hk : ∀ k a vs, Nd Z η n H k a vs → Nd Z' η' n' H' k a vs) (hr : ∀ i, i < n → η' i = η i ∧ i < n') : Trn Z η n H Z' η' n' H' :=
  ⟨k, RV.turn hk hr, RVs.turn hk hr⟩
theorem Stp.trn (s : Stp η n H η' n' H') : Trn Z η n H Z η' n' H' := .of rfl (fun _ _ _ q => q.step s) fun i hi => ⟨s.agree i hi, Nat.lt_of_lt_of_le hi s.le⟩
section
variable {Z' : Zt} (t : Trn Z η n H Z' η' n' H')
include t
theorem Trn.fs : ∀ (l : List (Str × D)) (vs : List (Str × V)), RFs Z η n H l vs → RFs Z' η' n' H' l vs
  | [], vs, h => by unfold RFs at h ⊢; exact h
  | (f, d) :: l, vs, h => by
    unfold RFs at h ⊢
    obtain ⟨v, r, e, h1, h2⟩ := h
    exact ⟨v, r, e, t.v d v h1, Trn.fs l r h2⟩
theorem Trn.ks : ∀ (l : List (Key × D)) (vs : List (Key × V)), RKs Z η n H l vs → RKs Z' η' n' H' l vs
  | [], vs, h => by unfold RKs at h ⊢; exact h
  | (f, d) :: l, vs, h => by
    unfold RKs at h ⊢
    obtain ⟨v, r, e, h1, h2⟩ := h
    exact ⟨v, r, e, t.v d v h1, Trn.ks l r h2⟩
theorem Trn.o : ∀ (o : O) (u : HO), RO Z η n H o u → RO Z' η' n' H' o u
  | .lst l, u, h => by
    obtain ⟨vs, e, r⟩ := h
    exact ⟨vs, e, t.vs l vs r⟩
  | .dct l, u, h => by
    obtain ⟨vs, e, r⟩ := h
    exact ⟨vs, e, t.ks l vs r⟩
  | .ins C fs, u, h => by
    obtain ⟨dx, vs, e, r⟩ := h
    exact ⟨dx, vs, by rw [t.K]; exact e, t.fs fs vs r⟩
theorem Trn.s {σ : SL} {σV : L2.St} (h : RS Z η n H σ σV) : RS Z' η' n' H' σ σV :=
  ⟨h.1, fun i d e => let ⟨v, e1, r⟩ := h.2 i d e; ⟨v, e1, t.v d v r⟩⟩
end
theorem RV.step (s : Stp η n H η' n' H') (d : D) (v : V) (h : RV Z η n H d v) : RV Z η' n' H' d v := s.trn.v d v h
theorem RVs.step (s : Stp η n H η' n' H') (l : List D) (vs : List V) (h : RVs Z η n H l vs) : RVs Z η' n' H' l vs := s.trn.vs l vs h
theorem RO.step (s : Stp η n H η' n' H') (o : O) (u : HO) (h : RO Z η n H o u) : RO Z η' n' H' o u := s.trn.o o u h
theorem RS.step {σ : SL} {σV : L2.St} (s : Stp η n H η' n' H') (h : RS Z η n H σ σV) : RS Z η' n' H' σ σV := s.trn.s h
/-- no tree stands at an address that is free -/
theorem Trn.bar {p : Addr} (hp : H p = none) : Trn Z η n H (Z.bar p) η n H := by
  refine .of rfl (fun k a vs q => ?_) fun i hi => ⟨rfl, hi⟩
  rcases q with ⟨u, q1, q2, q3, q4⟩ | q
  · exact .inl ⟨u, q1, q2, q3, fun z => z.elim (ne_of_none q1 hp) q4⟩
  · exact .inr q
theorem Trn.unbar {p : Addr} : Trn (Z.bar p) η n H Z η n H := by
  refine .of rfl (fun k a vs q => ?_) fun i hi => ⟨rfl, hi⟩
  rcases q with ⟨u, q1, q2, q3, q4⟩ | q
  · exact .inl ⟨u, q1, q2, q3, fun z => q4 (.inr z)⟩
  · exact .inr q
/-- what stands at a barred address may change -/
theorem Trn.updB {p : Addr} {o : HO} : Trn (Z.bar p) η n H (Z.bar p) η n (upd H p o) := by
  refine .of rfl (fun k a vs q => ?_) fun i hi => ⟨rfl, hi⟩
  rcases q with ⟨u, q1, q2, q3, q4⟩ | q
  · exact .inl ⟨u, by rw [upd_ne fun e => q4 (.inl e)]; exact q1, q2, q3, q4⟩
  · exact .inr q
theorem RX.step (s : Stp η n H η' n' H') {x : Exn} {cls : Value} {d : Option Addr} (h : RX Z η n H x cls d) : RX Z η' n' H' x cls d := by
  obtain ⟨h1, h2⟩ := h
  refine ⟨h1, ?_⟩
  rcases h2 with h2 | ⟨a, ws, e, e1, e2, e3, r⟩
  · exact .inl h2
  · exact .inr ⟨a, ws, e, s.keep _ _ e1 e2, s.apart e1 e2, e3, s.trn.fs _ _ r⟩
/-- with another Z that bars as much -/
theorem RX.to {Z' : Zt} (t : Trn Z η n H Z' η' n' H') {x : Exn} {cls : Value} {d : Option Addr} (h : RX Z η n H x cls d) (k : ∀ a ws, d = some a → H a = some (.xd ws) → (∀ i, i < n → η i ≠ a) → ¬ Z.B a → H' a = some (.xd ws) ∧ (∀ i, i < n' → η' i ≠ a) ∧ ¬ Z'.B a) : RX Z' η' n' H' x cls d := by
  obtain ⟨h1, h2⟩ := h
  refine ⟨by rw [t.K]; exact h1, ?_⟩
  rcases h2 with h2 | ⟨a, ws, e, e1, e2, e3, r⟩
  · exact .inl h2
  · obtain ⟨k1, k2, k3⟩ := k a ws e e1 e2 e3
    exact .inr ⟨a, ws, e, k1, k2, k3, t.fs _ _ r⟩
theorem RS.get {σ : SL} {σV : L2.St} {i : Nat} {d : D} (h : RS Z η n H σ σV) (e : σ[i]? = some (some d)) : ∃ v, σV[i]? = some (some v) ∧ RV Z η n H d v := h.2 i d e
theorem RS.set {σ : SL} {σV : L2.St} {i : Nat} {d : D} {v : V} (h : RS Z η n H σ σV) (r : RV Z η n H d v) : RS Z η n H (σ.set i (some d)) (σV.set i (some v)) := by
  refine ⟨by rw [List.length_set, List.length_set]; exact h.1, fun j d' e => ?_⟩
  by_cases hj : i = j
  · subst hj
    by_cases hl : i < σ.length
    · rw [List.getElem?_set_self hl] at e
      cases e
      exact ⟨v, List.getElem?_set_self (by rw [← h.1]; exact hl), r⟩
    · rw [List.getElem?_eq_none (by rw [List.length_set]; omega)] at e
      cases e
  · rw [List.getElem?_set_ne hj] at e
    obtain ⟨v', e', r'⟩ := h.2 j d' e
    exact ⟨v', by rw [List.getElem?_set_ne hj]; exact e', r'⟩
theorem RS.unset {σ : SL} {σV : L2.St} {i : Nat} (h : RS Z η n H σ σV) : RS Z η n H (σ.set i none) (σV.set i none) := by
  refine ⟨by rw [List.length_set, List.length_set]; exact h.1, fun j d' e => ?_⟩
  by_cases hj : i = j
  · subst hj
    by_cases hl : i < σ.length
    · rw [List.getElem?_set_self hl] at e
      cases e
    · rw [List.getElem?_eq_none (by rw [List.length_set]; omega)] at e
      cases e
  · rw [List.getElem?_set_ne hj] at e
    obtain ⟨v', e', r'⟩ := h.2 j d' e
    exact ⟨v', by rw [List.getElem?_set_ne hj]; exact e', r'⟩
end

/-! ### readings -/
/-- what is to hold behind an expression's program -/
def Post {α β : Type} (Z : Zt) (W : WX) (σV : L2.St) (η : Nat → Addr) (n : Nat) (H : Hp) (rel : (Nat → Addr) → AH → Hp → α → β → Prop) (r : R α) (Q : β → Hp → Prop) : Prop := match r with
  | .ok d h' => ∀ η' H' v, Stp η n H η' h'.length H' → RH Z η' h' H' → rel η' h' H' d v → Q v H'
  | .exc x h' => ∀ η' H' cls dd, Stp η n H η' h'.length H' → RH Z η' h' H' → RX Z η' h'.length H' x cls dd → W cls dd σV H'
  | .stuck => False
abbrev relV (Z : Zt) : (Nat → Addr) → AH → Hp → D → V → Prop := fun η h H d v => RV Z η h.length H d v
abbrev relVs (Z : Zt) : (Nat → Addr) → AH → Hp → List D → List V → Prop := fun η h H d v => RVs Z η h.length H d v
abbrev relB : (Nat → Addr) → AH → Hp → Bool → Bool → Prop := fun _ _ _ b c => b = c
/-- a list just made (H: the heap ahead) -/
def NewL (Z : Zt) (H : Hp) (η' : Nat → Addr) (h' : AH) (H' : Hp) (l : List D) (v : V) : Prop := ∃ a vs, v = .ref a ∧ H a = none ∧ H' a = some (.lst vs) ∧ RVs (Z.bar a) η' h'.length H' l vs ∧ RH (Z.bar a) η' h' H' ∧ ∀ i, i < h'.length → η' i ≠ a
section
variable (J : Kj) (W : WX)
def tE (m : E1 D) : TE := fun σV H Q => ∃ B σ h η, RS ⟨J.K, B, J.j⟩ η h.length H σ σV ∧ RH ⟨J.K, B, J.j⟩ η h H ∧ Post ⟨J.K, B, J.j⟩ W σV η h.length H (relV ⟨J.K, B, J.j⟩) (m σ h) Q
def tA (m : E1 (List D)) : TA := fun σV H Q => ∃ B σ h η, RS ⟨J.K, B, J.j⟩ η h.length H σ σV ∧ RH ⟨J.K, B, J.j⟩ η h H ∧ Post ⟨J.K, B, J.j⟩ W σV η h.length H (relVs ⟨J.K, B, J.j⟩) (m σ h) Q
def tT (m : E1 Bool) : TT := fun σV H Q => ∃ B σ h η, RS ⟨J.K, B, J.j⟩ η h.length H σ σV ∧ RH ⟨J.K, B, J.j⟩ η h H ∧ Post ⟨J.K, B, J.j⟩ W σV η h.length H relB (m σ h) Q
def tN (m : E1 (List D)) : TE := fun σV H Q => ∃ B σ h η, RS ⟨J.K, B, J.j⟩ η h.length H σ σV ∧ RH ⟨J.K, B, J.j⟩ η h H ∧ Post ⟨J.K, B, J.j⟩ W σV η h.length H (NewL ⟨J.K, B, J.j⟩ H) (m σ h) Q
end
/-- what is to hold behind a statement's program -/
def PostS (Z : Zt) (W : WX) (η : Nat → Addr) (n : Nat) (H : Hp) (r : SR) (Dn : Ends) : Prop := match r with
  | .nx σ' h' => ∀ η' H' σV', Stp η n H η' h'.length H' → RH Z η' h' H' → RS Z η' h'.length H' σ' σV' → Dn.nx σV' H'
  | .bk σ' h' => ∀ η' H' σV', Stp η n H η' h'.length H' → RH Z η' h' H' → RS Z η' h'.length H' σ' σV' → Dn.bk σV' H'
  | .ct σ' h' => ∀ η' H' σV', Stp η n H η' h'.length H' → RH Z η' h' H' → RS Z η' h'.length H' σ' σV' → Dn.ct σV' H'
  | .rt d h' => ∀ η' H' v, Stp η n H η' h'.length H' → RH Z η' h' H' → RV Z η' h'.length H' d v → Dn.rt v H'
  | .exc x σ' h' => ∀ η' H' cls dd σV', Stp η n H η' h'.length H' → RH Z η' h' H' → RX Z η' h'.length H' x cls dd → RS Z η' h'.length H' σ' σV' → W cls dd σV' H'
  | .stuck => False
def tS (J : Kj) (W : WX) (m : S1) : TS := fun Dn σV H => ∃ B σ h η, RS ⟨J.K, B, J.j⟩ η h.length H σ σV ∧ RH ⟨J.K, B, J.j⟩ η h H ∧ PostS ⟨J.K, B, J.j⟩ W η h.length H (m σ h) Dn
section
variable {Z : Zt} {W : WX} {σV : L2.St} {η η' : Nat → Addr} {n n' : Nat} {H H' : Hp}
/-- begin later -/
theorem Post.from {α β : Type} {rel rel' : (Nat → Addr) → AH → Hp → α → β → Prop} {r : R α} {Q : β → Hp → Prop} (s : Stp η n H η' n' H') (hr : ∀ η2 h2 H2 d v, Stp η' n' H' η2 h2.length H2 → rel' η2 h2 H2 d v → rel η2 h2 H2 d v)
    (p : Post Z W σV η n H rel r Q) : Post Z W σV η' n' H' rel' r Q := by
  cases r with
  | ok d h' => exact fun η2 H2 v t rh rv => p η2 H2 v (s.trans t) rh (hr _ _ _ _ _ t rv)
  | exc x h' => exact fun η2 H2 cls dd t rh rx => p η2 H2 cls dd (s.trans t) rh rx
  | stuck => exact p
theorem PostS.from {r : SR} {Dn : Ends} (s : Stp η n H η' n' H') (p : PostS Z W η n H r Dn) : PostS Z W η' n' H' r Dn := by
  cases r with
  | nx σ' h' => exact fun η2 H2 v t rh rv => p η2 H2 v (s.trans t) rh rv
  | bk σ' h' => exact fun η2 H2 v t rh rv => p η2 H2 v (s.trans t) rh rv
  | ct σ' h' => exact fun η2 H2 v t rh rv => p η2 H2 v (s.trans t) rh rv
  | rt d h' => exact fun η2 H2 v t rh rv => p η2 H2 v (s.trans t) rh rv
  | exc x σ' h' => exact fun η2 H2 cls dd σV' t rh rx rs => p η2 H2 cls dd σV' (s.trans t) rh rx rs
  | stuck => exact p
/-- one program behind another: what is left behind the first -/
theorem Post.seq {α β γ δ : Type} {relA : (Nat → Addr) → AH → Hp → α → γ → Prop} {relB relB' : (Nat → Addr) → AH → Hp → β → δ → Prop} {r : R α} {f : α → AH → R β} {Q : δ → Hp → Prop} {G : γ → Hp → Prop}
    (p : Post Z W σV η n H relB (r.bind f) Q) (hr : ∀ η1 n1 H1 η2 h2 H2 d v, Stp η n H η1 n1 H1 → Stp η1 n1 H1 η2 h2.length H2 → relB' η2 h2 H2 d v → relB η2 h2 H2 d v)
    (k : ∀ a h1 η1 H1 v, r = .ok a h1 → Stp η n H η1 h1.length H1 → RH Z η1 h1 H1 → relA η1 h1 H1 a v → Post Z W σV η1 h1.length H1 relB' (f a h1) Q → G v H1) : Post Z W σV η n H relA r G := by
  cases r with
  | ok a h1 => exact fun η1 H1 v s rh rv => k a h1 η1 H1 v rfl s rh rv (Post.from s (fun η2 h2 H2 d v t q => hr _ _ _ _ _ _ _ _ s t q) p)
  | exc x h1 => exact p
  | stuck => exact p
/-- the same, the relation behind as it is -/
theorem Post.sq {α β γ δ : Type} {relA : (Nat → Addr) → AH → Hp → α → γ → Prop} {relB : (Nat → Addr) → AH → Hp → β → δ → Prop} {r : R α} {f : α → AH → R β} {Q : δ → Hp → Prop} {G : γ → Hp → Prop}
    (p : Post Z W σV η n H relB (r.bind f) Q)
    (k : ∀ a h1 η1 H1 v, r = .ok a h1 → Stp η n H η1 h1.length H1 → RH Z η1 h1 H1 → relA η1 h1 H1 a v → Post Z W σV η1 h1.length H1 relB (f a h1) Q → G v H1) : Post Z W σV η n H relA r G :=
  Post.seq p (fun _ _ _ _ _ _ _ _ _ _ q => q) k
end
/-! ### judgements turned -/
section
variable {X : Cx}
theorem pe_of {e : Expr} {t t' : TE} (h : PE X e t) (w : ∀ σ H Q, t' σ H Q → t σ H Q) : PE X e t' := ⟨fun pins s σ H Q I q => h.run pins s σ H Q I (w σ H Q q)⟩
theorem pt_of {e : Expr} {t t' : TT} (h : PT X e t) (w : ∀ σ H Q, t' σ H Q → t σ H Q) : PT X e t' := ⟨fun pins s σ H Q I q => h.run pins s σ H Q I (w σ H Q q)⟩
theorem pw_of {e : Expr} {t t' : TT} (h : PW X e t) (w : ∀ σ H Q, t' σ H Q → t σ H Q) : PW X e t' := ⟨fun wh pins s σ H Q I q => h.run wh pins s σ H Q I (w σ H Q q)⟩
theorem pa_of {e : List Expr} {t t' : TA} (h : PA X e t) (w : ∀ σ H Q, t' σ H Q → t σ H Q) : PA X e t' := ⟨fun pos pins s σ H Q I q => h.run pos pins s σ H Q I (w σ H Q q)⟩
theorem ps_of {e : Stmt} {t t' : TS} (h : PS X e t) (w : ∀ D σ H, t' D σ H → t D σ H) : PS X e t' := ⟨fun pins s σ H D I q => h.run pins s σ H D I (w D σ H q)⟩
theorem pss_of {e : List Stmt} {t t' : TS} (h : PSs X e t) (w : ∀ D σ H, t' D σ H → t D σ H) : PSs X e t' := ⟨fun pins s σ H D I q => h.run pins s σ H D I (w D σ H q)⟩
end
end RF

set_option maxRecDepth 100000
set_option maxHeartbeats 1000000
/-! RFt: tuples just made, tracked with their objects (so that their methods may be called): displays, +, slices, tuple(list); tuple.index of data at any depth. -/
namespace RF
open PySem PySem.Spec PyProof.Rows L2
/-- a tuple just made -/
def FT (H : Hp) (ys : List V) (Q : VK) : Prop := ∀ p o, H p = none → TF o → Q (.ref p) (upd H p (.frz o (.tup ys)))
section
variable {X : Cx} {pins : List (Addr × Obj)} {σ : L2.St} {H : Hp} {s : Shared} {ys : List V} {its : List Value} {Q : VK}
theorem laidT (I : Inv X pins σ H s) (hz : ys.length ≤ sizeLine) (r : Vals ys its) (q : FT H ys Q) (t' : Nat) : EP X pins σ Q (.ref s.heap.objs.size) { s with heap := s.heap.push { cls := .type "tuple", data := .seq its.toArray }, toks := t' } := by
  refine ⟨.ref s.heap.objs.size, _, I.laid (t' := t') (o := .frz { cls := .type "tuple", data := .seq its.toArray } (.tup ys)) (fun b ob q => Heap.get?_push_of_some _ q) (Nat.le_refl _) ?_, rfl, q _ _ (I.hok.fresh (Nat.le_refl _)) ⟨rfl, rfl⟩⟩
  exact ⟨Heap.get?_push_size _ rfl, hz, its, r, IsTup.new _ _⟩
def tTupF (t : TA) : TE := fun σ H Q => t σ H fun xs H1 => xs.length ≤ sizeLine ∧ FT H1 xs Q
theorem pe_tupF {es : List Expr} {k : Nat} {pos : Pos} {t : TA} (h : PA X es t) : PE X (.Tuple es k pos) (tTupF t) := by
  refine ⟨fun pins s σ H Q I hq => ?_⟩
  refine wpAny_Tuple_spliced (thn (h.run pos pins s σ H _ I hq) fun us s1 ⟨xs, H1, I1, r, z, q⟩ => ⟨by rw [← r.length]; exact z, ?_⟩)
  exact laidT I1 z r q s1.toks
def rCatF (K : PySem.W.Frag) : R2 := fun x y H Q => ∃ a b xs ys, x = .ref a ∧ y = .ref b ∧ SqT K H a xs ∧ SqT K H b ys ∧ xs.length + ys.length ≤ sizeLine ∧
  (xs = [] → Q (.ref b) H) ∧ (xs ≠ [] → ys = [] → Q (.ref a) H) ∧ (xs ≠ [] → ys ≠ [] → FT H (xs ++ ys) Q)
theorem op_catF : OpR X (binaryOp .Add) (rCatF X.K) := by
  intro pins s σ H x y v u Q I rx ry h
  obtain ⟨a, b, xs, ys, rfl, rfl, ha, hb, hz, q0, q1, q2⟩ := h
  cases rx
  cases ry
  obtain ⟨its, r1, p1, _⟩ := I.tuple ha
  obtain ⟨its2, r2, p2, _⟩ := I.tuple hb
  by_cases hx : xs = []
  · subst hx
    cases r1
    exact cat_tup0 p1 p2 ⟨.ref b, H, I, rfl, q0 rfl⟩
  · refine HT.cat_tup p1 p2 (fun z => hx (r1.nil_iff.mp z)) (fun z => ⟨.ref a, H, I, rfl, q1 hx (r2.nil_iff.mp z)⟩) (fun z => ?_) (by rw [← r1.length, ← r2.length]; exact hz)
    exact laidT (t' := s.toks) I (by rw [List.length_append]; exact hz) (r1.append r2) (q2 hx fun w => z (r2.nil_iff.mpr w))
def rSlF (K : PySem.W.Frag) : V → Option Int → Option Int → Hp → VK → Prop := fun x lo hi H Q => ∃ a xs, x = .ref a ∧ SqT K H a xs ∧
  (HT.sIx xs.length 0 lo = 0 ∧ HT.sIx xs.length xs.length hi = xs.length → Q (.ref a) H) ∧ (¬ (HT.sIx xs.length 0 lo = 0 ∧ HT.sIx xs.length xs.length hi = xs.length) → FT H (cutV xs lo hi) Q)
theorem sl_tupF : SlR X (rSlF X.K) := by
  intro pins s σ H x v vl vu lo hi sl Q I rx hs pl pu h
  obtain ⟨a, xs, rfl, hx, q1, q2⟩ := h
  cases rx
  obtain ⟨its, r, ht, hz⟩ := I.tuple hx
  have hlen : its.toArray.size = xs.length := by rw [List.size_toArray]; exact r.length.symm
  refine ⟨"tuple", _, PyProof.Rows.slot_tuple_getitem.lookup, ht.typeIs, ?_⟩
  by_cases hw : HT.sIx xs.length 0 lo = 0 ∧ HT.sIx xs.length xs.length hi = xs.length
  · exact getItem_tuple_whole ht hs pl pu (by rw [hlen]; exact hw) ⟨.ref a, H, I, rfl, q1 hw⟩
  · refine HT.getItem_tuple_cut ht hs pl pu (by rw [hlen]; exact hw) ?_ (by rw [hlen]; exact hz)
    rw [hlen]
    exact laidT (t' := s.toks) I (Nat.le_trans (cutV_length xs lo hi) hz) ((r.drop (HT.sIx xs.length 0 lo)).take (HT.sIx xs.length xs.length hi - HT.sIx xs.length 0 lo)) (q2 hw)
def rTupF (K : PySem.W.Frag) : List V → Hp → VK → Prop := fun xs H Q => ∃ p ys, xs = [.ref p] ∧ ((SqL K H p ys ∧ FT H ys Q) ∨ (SqT K H p ys ∧ Q (.ref p) H))
theorem call_tupleF : CallR X (.type "tuple") (rTupF X.K) := by
  intro pins s σ H xs us Q I r h
  obtain ⟨p, ys, rfl, h⟩ := h
  obtain ⟨u, rfl, rx⟩ := vals1 r
  cases rx
  rcases h with ⟨hq, q⟩ | ⟨hq, q⟩
  · obtain ⟨its, r', pl, hz⟩ := I.list hq
    have hlen := r'.length
    refine call_tuple_list pl.isList (fun h' kp => ?_) (by simp only [List.size_toArray] <;> omega)
    have I1 : Inv X pins σ H { s with heap := h' } := I.kept (t' := s.toks) kp
    exact laidT (t' := s.toks) I1 hz r' q
  · obtain ⟨its, r', pl, hz⟩ := I.tuple hq
    exact call_tuple_same pl ⟨.ref p, H, I, rfl, q⟩
/-! ### a method of a plain tuple -/
def TyT (K : PySem.W.Frag) (x : V) (H : Hp) : Prop := ∃ p, x = .ref p ∧ ((∃ o xs, H p = some (.frz o (.tup xs)) ∧ TF o) ∨ ∃ xs, KwT K p xs)
theorem TyT.is {x : V} {v : Value} (I : Inv X pins σ H s) (r : RelV x v) (ty : TyT X.K x H) : s.TypeIs v "tuple" ∧ ∀ a, v = .ref a → ∃ ob, s.heap.get? a = some ob ∧ ob.dict = none := by
  obtain ⟨p, rfl, ty⟩ := ty
  cases r
  rcases ty with ⟨o, xs, hp, ho⟩ | ⟨xs, o, its, n, hk, hc, hd, _⟩
  · obtain ⟨e, _⟩ := I.hok p _ hp
    exact ⟨⟨o, e, ho.1⟩, fun a q => by cases q; exact ⟨o, e, ho.2⟩⟩
  · exact ⟨⟨o, I.kIn p o hk, hc⟩, fun a q => by cases q; exact ⟨o, I.kIn _ o hk, hd⟩⟩
def tBMT (K : PySem.W.Frag) (r : V → List V → Hp → VK → Prop) (to : TE) (t : TA) : TE := fun σ H Q => to σ H fun x H1 => TyT K x H1 ∧ t σ H1 fun xs H2 => r x xs H2 Q
theorem pe_bmT {o e : Expr} {es : List Expr} {to : TE} {t : TA} {name : Str} {apos cpos : Pos} {id : String} {r : V → List V → Hp → VK → Prop} (pa : PlainAttrs "tuple") (slot : Slot "tuple" name id) (hty : typeOf (.builtin id) = pure (.type "method_descriptor")) (hm : MtR X id r) (ho : PE X o to) (ha : PA X (e :: es) t)
    (hbase : attributeBase o name X.env (eval o X.env) = eval o X.env := by rfl)
    (hfew : ((backTo cpos (starEach (e :: es) X.env)).all (fun x => !x.1) && (backToKw cpos (keywordEach [] X.env)).all (fun x => x.1.isSome)
      && decide ((e :: es).length + ([] : List Keyword).length + (if ([] : List Keyword).isEmpty then 0 else 1) < 30)) = true := by rfl)
    (hline : (apos.endLine == cpos.line) = true := by rfl) (hs : starEach (e :: es) X.env = (false, eval e X.env) :: starEach es X.env := by rfl) (hplain : (backTo cpos (starEach es X.env)).any (·.1) = false := by rfl) :
    PE X (.Call (.Attribute o name apos) (e :: es) [] cpos) (tBMT X.K r to t) := by
  refine ⟨fun pins s σ H Q I h => ?_⟩
  refine wpAny_Call_method_late hbase hfew hline rfl (thn (ho.run pins s σ H _ I h) fun v s1 ⟨x, H1, I1, r1, ty, q1⟩ => ?_)
  obtain ⟨h1, h2⟩ := ty.is I1 r1
  refine ⟨"tuple", id, pa, slot, hty, h1, h2, ?_⟩
  have hA := ha.run cpos pins s1 σ H1 _ I1 q1
  rw [hs] at hA ⊢
  refine Calls.callWith_builtin (by show (false || (backTo cpos (starEach es X.env)).any (·.1)) = false; rw [hplain] <;> rfl) (Calls.evalArgs_plain ?_)
  exact thn hA fun us s2 ⟨vs, H2, I2, r2, q2⟩ => hm pins s2 σ H2 x vs v us Q I2 r1 r2 q2
/-- t.index(x): the first place of an equal one -/
def rIndexT (K : PySem.W.Frag) : V → List V → Hp → VK → Prop := fun x xs H Q => ∃ (a : Addr) (y : V) (d : PyData) (ds : List PyData) (j : Nat) (z : PyData), x = V.ref a ∧ xs = [y] ∧ Dp K H (V.ref a) (.tuple ds) ∧ Dp K H y d ∧
  PyData.canLayAll0 ds = true ∧ d.canLay0 = true ∧ min (PyData.depthAll ds) d.depth ≤ 64 ∧ ds[j]? = some z ∧ PyData.eqv z d = true ∧ (∀ (m : Nat) (z' : PyData), m < j → ds[m]? = some z' → PyData.eqv z' d = false) ∧ Q (.int (j : Nat)) H
theorem mt_indexT (hu : X.A.units + 66 < cLine) : MtR X "tuple.index" (rIndexT X.K) := by
  intro pins s σ H x xs v us Q I rx rxs h
  obtain ⟨a, y, d, ds, j, z, rfl, rfl, hl, hy, hxs, sd, hmn, hz, hzj, hno, q⟩ := h
  cases rx
  obtain ⟨uy, rfl, ry⟩ := vals1 rxs
  obtain ⟨bs, r1⟩ := Dp.reads I d y uy hy ry
  cases hl with
  | tup hs ha =>
    obtain ⟨its, rv, ⟨⟨cls, dd, data, sls⟩, ho, hc, n, hd⟩, hlen⟩ := I.tuple hs
    simp only at hc hd
    subst hc hd
    obtain ⟨as, h4⟩ := Dp.readsAll I ds _ its ha rv
    have hn : its.length = ds.length := SeqAt.ReadsAll.length ds its as h4
    have hmap : its.map (SeqAt.readOf s.heap) = ds := SeqAt.readsAll_map ds its as hxs h4
    obtain ⟨hjd, ejd⟩ := List.getElem?_eq_some_iff.mp hz
    have hj : j < its.toArray.size := by rw [List.size_toArray, hn]; exact hjd
    have at' : ∀ (m : Nat) (hm : m < its.toArray.size), ds[m]? = some (SeqAt.readOf s.heap its.toArray[m]) := fun m hm => by
      rw [← hmap, List.getElem?_map]
      have hm' : m < its.length := by simpa using hm
      rw [List.getElem?_eq_getElem hm']
      simp
    refine call_meets PySem.F.slot_tuple_index ⟨_, ho, rfl⟩ PySem.F.entry_tuple_index (PySem.F.args_tuple_index_2 _ _) (TI.tuple_indexAt a its.toArray n dd sls uy (fun y => PyData.eqv (SeqAt.readOf s.heap y) d) j hj ?_ ?_)
      ⟨ho, SeqAt.items_eqAt (by simpa using h4) r1 hxs sd (by omega), ⟨.int (j : Nat), H, I.tok _, ⟨_, rfl⟩, q⟩⟩
    · have e := at' j hj
      rw [hz] at e
      cases e
      exact hzj
    · intro m hm hmj
      exact hno m _ hmj (at' m hm)
end
end RF

set_option maxRecDepth 100000
set_option maxHeartbeats 1000000
/-! RFb: heap steps; names, constants, displays, tests, blocks, small statements, loops. -/
namespace RF
open PySem PySem.Spec PyProof.Rows L2
variable {jt : Jt}
/-! ### heap steps -/
section
variable {Z : Zt} {η η' : Nat → Addr} {n n' : Nat} {H H' : Hp} {h : AH} {p : Addr} {o : HO}
theorem Stp.new (hp : H p = none) : Stp η n H η n (upd H p o) where
  le := Nat.le_refl _
  agree := fun _ _ => rfl
  keep := fun a u e _ => by rw [upd_ne (ne_of_none e hp)]; exact e
  there := fun a u e => ⟨u, by rw [upd_ne (ne_of_none e hp)]; exact e⟩
  fresh := fun i h1 h2 => absurd h2 (Nat.not_lt.mpr h1)
theorem Trn.comp {Z' Z2 : Zt} {η2 : Nat → Addr} {n2 : Nat} {H2 : Hp} (a : Trn Z η n H Z' η' n' H') (b : Trn Z' η' n' H' Z2 η2 n2 H2) : Trn Z η n H Z2 η2 n2 H2 :=
  ⟨b.K.trans a.K, fun d v q => b.v d v (a.v d v q), fun d v q => b.vs d v (a.vs d v q)⟩
theorem Trn.new (hp : H p = none) : Trn Z η n H (Z.bar p) η n (upd H p o) := (Trn.bar hp).comp Trn.updB
theorem RH.lt (rh : RH Z η h H) {i : Nat} (hi : i < h.length) : ∃ u, H (η i) = some u := by
  obtain ⟨u, e, _⟩ := rh.obj i h[i] (List.getElem?_eq_getElem hi)
  exact ⟨u, e⟩
theorem RH.none_ne (rh : RH Z η h H) (hp : H p = none) : ∀ i, i < h.length → η i ≠ p := fun i hi => by
  obtain ⟨u, e⟩ := rh.lt hi
  exact ne_of_none e hp
theorem RH.nb (rh : RH Z η h H) (hp : H p = none) : ¬ Z.B p := fun z => by
  obtain ⟨o, e⟩ := rh.bad p z
  rw [hp] at e; cases e
theorem RH.newB (rh : RH Z η h H) (hp : H p = none) : RH (Z.bar p) η h (upd H p o) where
  obj := fun i ob e => by
    obtain ⟨u, e1, r⟩ := rh.obj i ob e
    exact ⟨u, by rw [upd_ne (ne_of_none e1 hp)]; exact e1, (Trn.new hp).o ob u r⟩
  inj := rh.inj
  bad := fun a z => by
    rcases z with rfl | z
    · exact ⟨o, upd_same⟩
    · obtain ⟨u, e⟩ := rh.bad a z
      exact ⟨u, by rw [upd_ne (ne_of_none e hp)]; exact e⟩
  jx := fun cls d x e => (rh.jx cls d x e).to (Trn.new hp) fun a ws _ e1 e2 e3 => ⟨by rw [upd_ne (ne_of_none e1 hp)]; exact e1, e2, fun z => z.elim (ne_of_none e1 hp) e3⟩
theorem RH.unbar (rh : RH (Z.bar p) η h H) : RH Z η h H where
  obj := fun i ob e => by
    obtain ⟨u, e1, r⟩ := rh.obj i ob e
    exact ⟨u, e1, Trn.unbar.o ob u r⟩
  inj := rh.inj
  bad := fun a z => rh.bad a (.inr z)
  jx := fun cls d x e => (rh.jx cls d x e).to Trn.unbar fun a ws _ e1 e2 e3 => ⟨e1, e2, fun z => e3 (.inr z)⟩
theorem RH.new (rh : RH Z η h H) (hp : H p = none) : RH Z η h (upd H p o) := (rh.newB hp).unbar
/-- a barred object, apart from the written ones, changes -/
theorem RH.updB (rh : RH (Z.bar p) η h H) (hn : ∀ i, i < h.length → η i ≠ p) : RH (Z.bar p) η h (upd H p o) where
  obj := fun i ob e => by
    obtain ⟨u, e1, r⟩ := rh.obj i ob e
    have hi : i < h.length := (List.getElem?_eq_some_iff.mp e).1
    exact ⟨u, by rw [upd_ne (hn i hi)]; exact e1, Trn.updB.o ob u r⟩
  inj := rh.inj
  bad := fun a z => by
    obtain ⟨u, e⟩ := rh.bad a z
    by_cases ha : a = p
    · subst ha; exact ⟨o, upd_same⟩
    · exact ⟨u, by rw [upd_ne ha]; exact e⟩
  jx := fun cls d x e => (rh.jx cls d x e).to Trn.updB fun a ws _ e1 e2 e3 => ⟨by rw [upd_ne fun z => e3 (.inl z)]; exact e1, e2, e3⟩
theorem Stp.write {i : Nat} (hi : i < n) : Stp η n H η n (upd H (η i) o) where
  le := Nat.le_refl _
  agree := fun _ _ => rfl
  keep := fun a u e ha => by rw [upd_ne (Ne.symm (ha i hi))]; exact e
  there := fun a u e => by
    by_cases ea : a = η i
    · subst ea; exact ⟨_, upd_same⟩
    · exact ⟨u, by rw [upd_ne ea]; exact e⟩
  fresh := fun i h1 h2 => absurd h2 (Nat.not_lt.mpr h1)
theorem RH.write (rh : RH Z η h H) {i : Nat} (hi : i < h.length) {ob : O} (r : RO Z η h.length H ob o) : RH Z η (h.set i ob) (upd H (η i) o) where
  obj := fun j oj e => by
    rw [List.length_set]
    by_cases hj : i = j
    · subst hj
      rw [List.getElem?_set_self hi] at e
      cases e
      exact ⟨o, upd_same, RO.step (Stp.write hi) _ _ r⟩
    · rw [List.getElem?_set_ne hj] at e
      obtain ⟨u, e1, r1⟩ := rh.obj j oj e
      have hjl : j < h.length := (List.getElem?_eq_some_iff.mp e).1
      refine ⟨u, ?_, RO.step (Stp.write hi) _ _ r1⟩
      rw [upd_ne fun q => hj (rh.inj j i hjl hi q).symm]
      exact e1
  inj := fun a b ha hb q => by
    rw [List.length_set] at ha hb
    exact rh.inj a b ha hb q
  bad := fun a z => by
    obtain ⟨u, e⟩ := rh.bad a z
    by_cases ha : a = η i
    · subst ha; exact ⟨o, upd_same⟩
    · exact ⟨u, by rw [upd_ne ha]; exact e⟩
  jx := fun cls d x e => by
    rw [List.length_set]
    exact (rh.jx cls d x e).step (Stp.write hi)
/-- one more written object, at p -/
def ext (η : Nat → Addr) (n : Nat) (p : Addr) : Nat → Addr := fun j => if j = n then p else η j
theorem ext_at : ext η n p n = p := if_pos rfl
theorem ext_lt {i : Nat} (h : i < n) : ext η n p i = η i := if_neg (Nat.ne_of_lt h)
theorem Stp.adopt {H0 : Hp} {η0 : Nat → Addr} {n0 : Nat} (s : Stp η0 n0 H0 η n H) (h0 : H0 p = none) : Stp η0 n0 H0 (ext η n p) (n + 1) H where
  le := Nat.le_succ_of_le s.le
  agree := fun i hi => by rw [ext_lt (Nat.lt_of_lt_of_le hi s.le)]; exact s.agree i hi
  keep := s.keep
  there := s.there
  fresh := fun i h1 h2 => by
    by_cases e : i = n
    · subst e; rw [ext_at]; exact h0
    · rw [ext_lt (by omega)]; exact s.fresh i h1 (by omega)
theorem Trn.adopt : Trn (Z.bar p) η n H Z (ext η n p) (n + 1) H := by
  have hx : ∀ {a : Addr}, (∀ i, i < n → η i ≠ a) → ¬ (Z.bar p).B a → (∀ i, i < n + 1 → ext η n p i ≠ a) ∧ ¬ Z.B a := fun {a} h1 h2 => by
    refine ⟨fun i hi => ?_, fun z => h2 (.inr z)⟩
    by_cases e : i = n
    · subst e; rw [ext_at]; exact fun q => h2 (.inl q.symm)
    · rw [ext_lt (by omega)]; exact h1 i (by omega)
  refine .of rfl (fun k a vs q => ?_) fun i hi => ⟨ext_lt hi, Nat.lt_succ_of_lt hi⟩
  rcases q with ⟨u, q1, q2, q3, q4⟩ | q
  · exact .inl ⟨u, q1, q2, (hx q3 q4).1, (hx q3 q4).2⟩
  · exact .inr q
theorem RH.adopt (rh : RH (Z.bar p) η h H) (hn : ∀ i, i < h.length → η i ≠ p) {ob : O} {u : HO} (hu : H p = some u) (r : RO (Z.bar p) η h.length H ob u) : RH Z (ext η h.length p) (h ++ [ob]) H where
  obj := fun i oi e => by
    rw [List.length_append]
    show ∃ u, H (ext η h.length p i) = some u ∧ RO Z (ext η h.length p) (h.length + 1) H oi u
    by_cases hi : i < h.length
    · rw [List.getElem?_append_left hi] at e
      obtain ⟨u, e1, r1⟩ := rh.obj i oi e
      exact ⟨u, by rw [ext_lt hi]; exact e1, Trn.adopt.o _ _ r1⟩
    · have hl := (List.getElem?_eq_some_iff.mp e).1
      rw [List.length_append] at hl
      have e2 : i = h.length := by simp at hl; omega
      subst e2
      rw [List.getElem?_append_right (Nat.le_refl _), Nat.sub_self] at e
      cases e
      exact ⟨u, by rw [ext_at]; exact hu, Trn.adopt.o _ _ r⟩
  inj := fun a b ha hb q => by
    rw [List.length_append] at ha hb
    simp at ha hb
    by_cases ea : a = h.length
    · by_cases eb : b = h.length
      · rw [ea, eb]
      · rw [ea, ext_at, ext_lt (by omega)] at q
        exact absurd q.symm (hn b (by omega))
    · by_cases eb : b = h.length
      · rw [eb, ext_at, ext_lt (by omega)] at q
        exact absurd q (hn a (by omega))
      · rw [ext_lt (by omega), ext_lt (by omega)] at q
        exact rh.inj a b (by omega) (by omega) q
  bad := fun a z => rh.bad a (.inr z)
  jx := fun cls d x e => by
    rw [List.length_append]
    refine (rh.jx cls d x e).to (Z' := Z) (n' := h.length + 1) Trn.adopt fun a ws _ e1 e2 e3 => ⟨e1, fun i hi => ?_, fun z => e3 (.inr z)⟩
    by_cases ei : i = h.length
    · subst ei; rw [ext_at]; exact fun q => e3 (.inl q.symm)
    · rw [ext_lt (by omega)]; exact e2 i (by omega)
theorem NewL.mk {H1 : Hp} {l : List D} {vs : List V} {η0 : Nat → Addr} {n0 : Nat} (s : Stp η0 n0 H η h.length H1) (rh : RH Z η h H1) (hp : H1 p = none) (r : RVs Z η h.length H1 l vs) : NewL Z H η h (upd H1 p (.lst vs)) l (.ref p) :=
  ⟨p, vs, rfl, s.none_back hp, upd_same, (Trn.new hp).vs l vs r, rh.newB hp, rh.none_ne hp⟩
end
/-! ### lists just made: nobody's, or a written one -/
def pureL (m : E1 (List D)) : E1 D := fun σ h => (m σ h).bind fun l h' => .ok (.lst l) h'
def newL (m : E1 (List D)) : E1 D := fun σ h => (m σ h).bind fun l h' => .ok (.ref h'.length) (h' ++ [.lst l])
section
variable {X : Cx} {W : WX} {e : Expr} {m : E1 (List D)}
theorem n_pure (he : PE X e (tN ⟨X.K, jt⟩ W m)) : PE X e (tE ⟨X.K, jt⟩ W (pureL m)) := pe_of he fun σV H Q hq => by
  obtain ⟨B, σ, h, η, rs, rh, p⟩ := hq
  refine ⟨B, σ, h, η, rs, rh, Post.sq p fun l h1 η1 H1 v _ s rh1 nl p1 => ?_⟩
  obtain ⟨a, vs, rfl, ha, ha1, r, rhb, hn⟩ := nl
  exact p1 η1 H1 _ Stp.refl rh1 (by unfold relV RV; exact ⟨a, vs, rfl, .inl ⟨_, ha1, rfl, hn, rh.nb ha⟩, Trn.unbar.vs _ _ r⟩)
theorem n_new (he : PE X e (tN ⟨X.K, jt⟩ W m)) : PE X e (tE ⟨X.K, jt⟩ W (newL m)) := pe_of he fun σV H Q hq => by
  obtain ⟨B, σ, h, η, rs, rh, p⟩ := hq
  refine ⟨B, σ, h, η, rs, rh, ?_⟩
  unfold newL at p
  cases em : m σ h with
  | stuck => rw [em] at p; exact p
  | exc x h1 => rw [em] at p; exact p
  | ok l h1 =>
    rw [em] at p
    intro η1 H1 v s rh1 nl
    obtain ⟨a, vs, rfl, ha, ha1, r, rhb, hn⟩ := nl
    have s2 : Stp η h.length H (ext η1 h1.length a) (h1 ++ [O.lst l]).length H1 := by
      rw [List.length_append]
      exact s.adopt ha
    refine p (ext η1 h1.length a) H1 _ s2 (rhb.adopt hn ha1 ⟨vs, rfl, r⟩) ?_
    unfold relV RV
    rw [ext_at, List.length_append]
    exact ⟨rfl, Nat.lt_succ_self _⟩
end
/-! ### names, constants -/
def varE (i : Nat) : E1 D := fun σ h => match σ[i]? with
  | some (some d) => .ok d h
  | _ => .stuck
def pureE {α : Type} (d : α) : E1 α := fun _ h => .ok d h
section
variable {X : Cx} {W : WX}
theorem e_var (i : Nat) {x : Str} {pos : Pos} (hN : X.N[i]? = some x := by rfl) (hv : Vis X.env.scope x := by first | exact Or.inl rfl | exact Or.inr (Or.inl rfl) | exact Or.inr (Or.inr rfl)) (hd : (x == ("__debug__" : Str)) = false := by decide)
    (hcd : (x == ("__classdict__" : Str)) = false := by decide) : PE X (.Name x pos) (tE ⟨X.K, jt⟩ W (varE i)) := pe_of (pe_var hN hv hd hcd) fun σV H Q hq => by
  obtain ⟨B, σ, h, η, rs, rh, p⟩ := hq
  unfold varE at p
  cases e : σ[i]? with
  | none => rw [e] at p; exact p.elim
  | some o =>
    rw [e] at p
    cases o with
    | none => exact p.elim
    | some d =>
      obtain ⟨v, ev, r⟩ := rs.get e
      exact ⟨v, ev, p η H v Stp.refl rh r⟩
/-- a value that hangs on nothing -/
theorem e_const {e : Expr} {v : V} {d : D} (he : PE X e (tC v)) (r : ∀ B jt η n H, RV ⟨X.K, B, jt⟩ η n H d v) : PE X e (tE ⟨X.K, jt⟩ W (pureE d)) := pe_of he fun σV H Q hq => by
  obtain ⟨B, σ, h, η, rs, rh, p⟩ := hq
  exact p η H v Stp.refl rh (r B jt η h.length H)
theorem e_int {i jj pos} : PE X (.Constant (.int i) jj pos) (tE ⟨X.K, jt⟩ W (pureE (.int i))) := e_const pe_int fun _ _ _ _ _ => by unfold RV; rfl
theorem e_bl {i jj pos} : PE X (.Constant (.bool i) jj pos) (tE ⟨X.K, jt⟩ W (pureE (.bl i))) := e_const pe_bl fun _ _ _ _ _ => by unfold RV; rfl
theorem e_non {jj pos} : PE X (.Constant .none jj pos) (tE ⟨X.K, jt⟩ W (pureE .non)) := e_const pe_non fun _ _ _ _ _ => by unfold RV; rfl
theorem e_str {i jj pos} : PE X (.Constant (.str i) jj pos) (tE ⟨X.K, jt⟩ W (pureE (.str i))) := e_const pe_str fun _ _ _ _ _ => by unfold RV; rfl
/-- a constant of the top -/
theorem e_gint {x : Str} {i : Int} {pos : Pos} (hm : ∃ t, X.mg x = some (.int i t)) (hg : Gl X x := by rfl) (hd : (x == ("__debug__" : Str)) = false := by decide) : PE X (.Name x pos) (tE ⟨X.K, jt⟩ W (pureE (.int i))) := by
  obtain ⟨t, hm⟩ := hm
  exact e_const (pe_glob (v := .int i) hg hm ⟨t, rfl⟩ hd) fun _ _ _ _ _ => by unfold RV; rfl
theorem e_gstr {x : Str} {i : Str} {pos : Pos} (hm : ∃ t, X.mg x = some (.str i t)) (hg : Gl X x := by rfl) (hd : (x == ("__debug__" : Str)) = false := by decide) : PE X (.Name x pos) (tE ⟨X.K, jt⟩ W (pureE (.str i))) := by
  obtain ⟨t, hm⟩ := hm
  exact e_const (pe_glob (v := .str i) hg hm ⟨t, rfl⟩ hd) fun _ _ _ _ _ => by unfold RV; rfl
/-- a constant whose tree is of the top -/
theorem e_gref {x : Str} {a : Addr} {d : D} {pos : Pos} (hm : X.mg x = some (.ref a)) (r : ∀ B jt η n H, RV ⟨X.K, B, jt⟩ η n H d (.ref a)) (hg : Gl X x := by rfl) (hd : (x == ("__debug__" : Str)) = false := by decide) : PE X (.Name x pos) (tE ⟨X.K, jt⟩ W (pureE d)) :=
  e_const (pe_glob (v := .ref a) hg hm rfl hd) r
/-- a built-in as a value -/
theorem e_bltn {x : Str} {n : String} {pos : Pos} (hm : X.mg x = none) (hv : bootBuiltins x = some (.type n)) (hg : Gl X x := by rfl) (hn : x ≠ "__name__" := by decide) (hd : (x == ("__debug__" : Str)) = false := by decide) : PE X (.Name x pos) (tE ⟨X.K, jt⟩ W (pureE (.cst (.ty n)))) :=
  e_const (pe_bltn (v := .ty n) hg hm hv rfl hn hd) fun _ _ _ _ _ => by unfold RV; rfl
end
/-! ### argument lists, displays -/
def consE (a : E1 D) (b : E1 (List D)) : E1 (List D) := fun σ h => (a σ h).bind fun x h1 => (b σ h1).bind fun l h2 => .ok (x :: l) h2
def sized {α : Type} (l : List D) (r : R α) : R α := if Nat.ble l.length 16777216 then r else .stuck
theorem sized_le {α : Type} {l : List D} {r : R α} {Z : Zt} {W : WX} {σV : L2.St} {η : Nat → Addr} {n : Nat} {H : Hp} {β : Type} {rel : (Nat → Addr) → AH → Hp → α → β → Prop} {Q : β → Hp → Prop} (p : Post Z W σV η n H rel (sized l r) Q) : l.length ≤ sizeLine ∧ Post Z W σV η n H rel r Q := by
  unfold sized at p
  by_cases hb : Nat.ble l.length 16777216 = true
  · rw [if_pos hb] at p
    exact ⟨by rw [sizeLine_eq]; exact Nat.le_of_ble_eq_true hb, p⟩
  · rw [if_neg hb] at p
    exact p.elim
def tupE (m : E1 (List D)) : E1 D := fun σ h => (m σ h).bind fun l h' => sized l (.ok (.tup l) h')
def dispE (m : E1 (List D)) : E1 (List D) := fun σ h => (m σ h).bind fun l h' => sized l (.ok l h')
theorem RVs.length {Z : Zt} {η : Nat → Addr} {n : Nat} {H : Hp} : ∀ (l : List D) (vs : List V), RVs Z η n H l vs → l.length = vs.length
  | [], vs, h => by unfold RVs at h; rw [h]; rfl
  | d :: l, vs, h => by
    unfold RVs at h
    obtain ⟨v, r, rfl, _, h2⟩ := h
    rw [List.length_cons, List.length_cons, RVs.length l r h2]
/-- a tuple just made -/
theorem post_tup {Z : Zt} {W : WX} {σV : L2.St} {η : Nat → Addr} {h : AH} {H : Hp} {l : List D} {vs : List V} {Q : VK} (rh : RH Z η h H) (r : RVs Z η h.length H l vs) (p : Post Z W σV η h.length H (relV Z) (.ok (.tup l) h) Q) : FT H vs Q := fun q o hq ho => by
  refine p η _ _ (Stp.new hq) (rh.new hq) ?_
  unfold relV RV
  exact ⟨q, vs, rfl, .inl ⟨_, upd_same, ⟨o, rfl, ho⟩, rh.none_ne hq, rh.nb hq⟩, RVs.step (Stp.new hq) _ _ r⟩
section
variable {X : Cx} {W : WX} {e : Expr} {es : List Expr} {m : E1 D} {ms : E1 (List D)} {pos : Pos}
theorem a_nil : PA X [] (tA ⟨X.K, jt⟩ W (pureE [])) := pa_of pa_nil fun σV H Q hq => by
  obtain ⟨B, σ, h, η, rs, rh, p⟩ := hq
  exact p η H [] Stp.refl rh (by unfold relVs RVs; rfl)
theorem a_cons (he : PE X e (tE ⟨X.K, jt⟩ W m)) (hr : PA X es (tA ⟨X.K, jt⟩ W ms)) (hs : starEach (e :: es) X.env = (false, eval e X.env) :: starEach es X.env := by rfl) : PA X (e :: es) (tA ⟨X.K, jt⟩ W (consE m ms)) := pa_of (pa_cons he hr hs) fun σV H Q hq => by
  obtain ⟨B, σ, h, η, rs, rh, p⟩ := hq
  refine ⟨B, σ, h, η, rs, rh, Post.sq p fun d h1 η1 H1 v _ s rh1 rv p1 => ?_⟩
  refine ⟨B, σ, h1, η1, rs.step s, rh1, Post.sq p1 fun l h2 η2 H2 vs _ s2 rh2 rvs p2 => ?_⟩
  exact p2 η2 H2 _ Stp.refl rh2 (by unfold relVs RVs; exact ⟨v, vs, rfl, RV.step s2 _ _ rv, rvs⟩)
theorem e_tup {k} (h : PA X es (tA ⟨X.K, jt⟩ W ms)) : PE X (.Tuple es k pos) (tE ⟨X.K, jt⟩ W (tupE ms)) := pe_of (pe_tupF h) fun σV H Q hq => by
  obtain ⟨B, σ, h, η, rs, rh, p⟩ := hq
  refine ⟨B, σ, h, η, rs, rh, Post.sq p fun l h1 η1 H1 vs _ s rh1 rvs p1 => ?_⟩
  obtain ⟨hz, p1⟩ := sized_le p1
  exact ⟨by rw [← RVs.length _ _ rvs]; exact hz, post_tup rh1 rvs p1⟩
theorem e_lst (h : PA X es (tA ⟨X.K, jt⟩ W ms)) : PE X (.List es pos) (tN ⟨X.K, jt⟩ W (dispE ms)) := pe_of (pe_lst h) fun σV H Q hq => by
  obtain ⟨B, σ, h, η, rs, rh, p⟩ := hq
  refine ⟨B, σ, h, η, rs, rh, Post.seq (relB' := fun η2 h2 H2 d v => NewL ⟨X.K, B, jt⟩ H η2 h2 H2 d v) p (fun _ _ _ _ _ _ _ _ _ _ q => q) fun l h1 η1 H1 vs _ s rh1 rvs p1 => ?_⟩
  obtain ⟨hz, p1⟩ := sized_le p1
  exact ⟨by rw [← RVs.length _ _ rvs]; exact hz, fun q hq => p1 η1 (upd H1 q (.lst vs)) (.ref q) (Stp.new hq) (rh1.new hq) (NewL.mk s rh1 hq rvs)⟩
end
/-! ### tests -/
def valT (m : E1 D) : E1 Bool := fun σ h => (m σ h).bind fun d h' => match d with
  | .bl b => .ok b h'
  | _ => .stuck
def andT (a b : E1 Bool) : E1 Bool := fun σ h => (a σ h).bind fun c h' => if c then b σ h' else .ok false h'
def orT (a b : E1 Bool) : E1 Bool := fun σ h => (a σ h).bind fun c h' => if c then .ok true h' else b σ h'
def notT (a : E1 Bool) : E1 Bool := fun σ h => (a σ h).bind fun c h' => .ok (!c) h'
def andE (a b : E1 D) : E1 D := fun σ h => (a σ h).bind fun d h' => match d with
  | .bl c => if c then b σ h' else .ok (.bl false) h'
  | _ => .stuck
def orE (a b : E1 D) : E1 D := fun σ h => (a σ h).bind fun d h' => match d with
  | .bl c => if c then .ok (.bl true) h' else b σ h'
  | _ => .stuck
def notE (a : E1 D) : E1 D := fun σ h => (a σ h).bind fun d h' => match d with
  | .bl c => .ok (.bl (!c)) h'
  | _ => .stuck
def ifE (c : E1 Bool) (a b : E1 D) : E1 D := fun σ h => (c σ h).bind fun k h' => if k then a σ h' else b σ h'
section
variable {X : Cx} {W : WX} {a b c e : Expr} {rest : List Expr} {ma mb : E1 D} {na nb : E1 Bool} {pos : Pos}
theorem rel_bl {Z : Zt} {η : Nat → Addr} {n : Nat} {H : Hp} {k : Bool} {v : V} (r : RV Z η n H (.bl k) v) : v = .bl k := by unfold RV at r; exact r
theorem t_val (h : PE X e (tE ⟨X.K, jt⟩ W ma)) (he : ∀ whole, isTrue e X.env whole = (do let v ← whole; standAt e.pos; holding [v] (truthy v)) := by intro _; rfl) : PT X e (tT ⟨X.K, jt⟩ W (valT ma)) := pt_of (pt_val h he) fun σV H Q hq => by
  obtain ⟨B, σ, h, η, rs, rh, p⟩ := hq
  refine ⟨B, σ, h, η, rs, rh, Post.sq p fun d h1 η1 H1 v _ s rh1 rv p1 => ?_⟩
  cases d with
  | bl k => exact ⟨k, rel_bl rv, p1 η1 H1 k Stp.refl rh1 rfl⟩
  | _ => exact p1.elim
theorem w_and1 (ha : PT X a (tT ⟨X.K, jt⟩ W na)) : PW X (.BoolOp .And [a] pos) (tT ⟨X.K, jt⟩ W na) := pw_and1 ha
theorem w_or1 (ha : PT X a (tT ⟨X.K, jt⟩ W na)) : PW X (.BoolOp .Or [a] pos) (tT ⟨X.K, jt⟩ W na) := pw_or1 ha
theorem w_and (ha : PT X a (tT ⟨X.K, jt⟩ W na)) (hb : PW X (.BoolOp .And (b :: rest) pos) (tT ⟨X.K, jt⟩ W nb)) : PW X (.BoolOp .And (a :: b :: rest) pos) (tT ⟨X.K, jt⟩ W (andT na nb)) := pw_of (pw_and ha hb) fun σV H Q hq => by
  obtain ⟨B, σ, h, η, rs, rh, p⟩ := hq
  refine ⟨B, σ, h, η, rs, rh, Post.sq p fun d h1 η1 H1 v _ s rh1 rv p1 => ?_⟩
  cases (show d = v from rv)
  cases d with
  | true => exact ⟨B, σ, h1, η1, rs.step s, rh1, p1⟩
  | false => exact p1 η1 H1 false Stp.refl rh1 rfl
theorem w_or (ha : PT X a (tT ⟨X.K, jt⟩ W na)) (hb : PW X (.BoolOp .Or (b :: rest) pos) (tT ⟨X.K, jt⟩ W nb)) : PW X (.BoolOp .Or (a :: b :: rest) pos) (tT ⟨X.K, jt⟩ W (orT na nb)) := pw_of (pw_or ha hb) fun σV H Q hq => by
  obtain ⟨B, σ, h, η, rs, rh, p⟩ := hq
  refine ⟨B, σ, h, η, rs, rh, Post.sq p fun d h1 η1 H1 v _ s rh1 rv p1 => ?_⟩
  cases (show d = v from rv)
  cases d with
  | false => exact ⟨B, σ, h1, η1, rs.step s, rh1, p1⟩
  | true => exact p1 η1 H1 true Stp.refl rh1 rfl
theorem t_not (ha : PT X a (tT ⟨X.K, jt⟩ W na)) : PT X (.UnaryOp .Not a pos) (tT ⟨X.K, jt⟩ W (notT na)) := pt_of (pt_not ha) fun σV H Q hq => by
  obtain ⟨B, σ, h, η, rs, rh, p⟩ := hq
  refine ⟨B, σ, h, η, rs, rh, Post.sq p fun d h1 η1 H1 v _ s rh1 rv p1 => ?_⟩
  cases (show d = v from rv)
  exact p1 η1 H1 (!d) Stp.refl rh1 rfl
theorem e_one {op} (h : PE X a (tE ⟨X.K, jt⟩ W ma)) : PE X (.BoolOp op [a] pos) (tE ⟨X.K, jt⟩ W ma) := pe_one h
theorem e_and (ha : PE X a (tE ⟨X.K, jt⟩ W ma)) (hb : PE X (.BoolOp .And (b :: rest) pos) (tE ⟨X.K, jt⟩ W mb)) : PE X (.BoolOp .And (a :: b :: rest) pos) (tE ⟨X.K, jt⟩ W (andE ma mb)) := pe_of (pe_and ha hb) fun σV H Q hq => by
  obtain ⟨B, σ, h, η, rs, rh, p⟩ := hq
  refine ⟨B, σ, h, η, rs, rh, Post.sq p fun d h1 η1 H1 v _ s rh1 rv p1 => ?_⟩
  cases d with
  | bl k =>
    refine ⟨k, rel_bl rv, ?_⟩
    cases k with
    | true => exact ⟨B, σ, h1, η1, rs.step s, rh1, p1⟩
    | false => exact p1 η1 H1 _ Stp.refl rh1 (by unfold relV RV; rfl)
  | _ => exact p1.elim
theorem e_or (ha : PE X a (tE ⟨X.K, jt⟩ W ma)) (hb : PE X (.BoolOp .Or (b :: rest) pos) (tE ⟨X.K, jt⟩ W mb)) : PE X (.BoolOp .Or (a :: b :: rest) pos) (tE ⟨X.K, jt⟩ W (orE ma mb)) := pe_of (pe_or ha hb) fun σV H Q hq => by
  obtain ⟨B, σ, h, η, rs, rh, p⟩ := hq
  refine ⟨B, σ, h, η, rs, rh, Post.sq p fun d h1 η1 H1 v _ s rh1 rv p1 => ?_⟩
  cases d with
  | bl k =>
    refine ⟨k, rel_bl rv, ?_⟩
    cases k with
    | false => exact ⟨B, σ, h1, η1, rs.step s, rh1, p1⟩
    | true => exact p1 η1 H1 _ Stp.refl rh1 (by unfold relV RV; rfl)
  | _ => exact p1.elim
theorem e_not (ha : PE X a (tE ⟨X.K, jt⟩ W ma)) : PE X (.UnaryOp .Not a pos) (tE ⟨X.K, jt⟩ W (notE ma)) := pe_of (pe_not ha) fun σV H Q hq => by
  obtain ⟨B, σ, h, η, rs, rh, p⟩ := hq
  refine ⟨B, σ, h, η, rs, rh, Post.sq p fun d h1 η1 H1 v _ s rh1 rv p1 => ?_⟩
  cases d with
  | bl k => exact ⟨k, rel_bl rv, p1 η1 H1 _ Stp.refl rh1 (by unfold relV RV; rfl)⟩
  | _ => exact p1.elim
theorem e_if (hc : PT X c (tT ⟨X.K, jt⟩ W na)) (ha : PE X a (tE ⟨X.K, jt⟩ W ma)) (hb : PE X b (tE ⟨X.K, jt⟩ W mb)) : PE X (.IfExp c a b pos) (tE ⟨X.K, jt⟩ W (ifE na ma mb)) := pe_of (pe_ifExp hc ha hb) fun σV H Q hq => by
  obtain ⟨B, σ, h, η, rs, rh, p⟩ := hq
  refine ⟨B, σ, h, η, rs, rh, Post.sq p fun d h1 η1 H1 v _ s rh1 rv p1 => ?_⟩
  cases (show d = v from rv)
  cases d with
  | true => exact ⟨B, σ, h1, η1, rs.step s, rh1, p1⟩
  | false => exact ⟨B, σ, h1, η1, rs.step s, rh1, p1⟩
end
/-! ### statements -/
def nopS : S1 := fun σ h => .nx σ h
def seqS (a b : S1) : S1 := fun σ h => match a σ h with
  | .nx σ1 h1 => b σ1 h1
  | r => r
def R.toS {α : Type} (r : R α) (σ : SL) (f : α → AH → SR) : SR := match r with
  | .ok d h1 => f d h1
  | .exc x h1 => .exc x σ h1
  | .stuck => .stuck
def dropS (m : E1 D) : S1 := fun σ h => (m σ h).toS σ fun _ h1 => .nx σ h1
def retS (m : E1 D) : S1 := fun σ h => (m σ h).toS σ fun d h1 => .rt d h1
def ifS (c : E1 Bool) (a b : S1) : S1 := fun σ h => (c σ h).toS σ fun k h1 => if k then a σ h1 else b σ h1
def setS (i : Nat) (m : E1 D) : S1 := fun σ h => (m σ h).toS σ fun d h1 => .nx (σ.set i (some d)) h1
def brkS : S1 := fun σ h => .bk σ h
def cntS : S1 := fun σ h => .ct σ h
section
variable {X : Cx} {W : WX} {e c : Expr} {st : Stmt} {sts rest : List Stmt} {m : E1 D} {n : E1 Bool} {a b : S1} {pos : Pos}
/-- an expression's end into a statement's -/
theorem postS_of {Z : Zt} {σV : L2.St} {σ : SL} {η : Nat → Addr} {h : AH} {H : Hp} {α β : Type} {rel : (Nat → Addr) → AH → Hp → α → β → Prop} {r : R α} {G : β → Hp → Prop} {Dn : Ends} {f : α → AH → SR} (rs : RS Z η h.length H σ σV)
    (p : PostS Z W η h.length H (r.toS σ f) Dn)
    (k : ∀ d h1 η1 H1 v, r = .ok d h1 → Stp η h.length H η1 h1.length H1 → RH Z η1 h1 H1 → rel η1 h1 H1 d v → PostS Z W η1 h1.length H1 (f d h1) Dn → G v H1) : Post Z W σV η h.length H rel r G := by
  cases r with
  | ok d h1 => exact fun η1 H1 v s rh rv => k d h1 η1 H1 v rfl s rh rv (PostS.from s p)
  | exc x h1 => exact fun η1 H1 cls dd s rh rx => p η1 H1 cls dd σV s rh rx (rs.step s)
  | stuck => exact p
theorem ss_nil : PSs X [] (tS ⟨X.K, jt⟩ W nopS) := pss_of pss_nil fun Dn σV H hq => by
  obtain ⟨B, σ, h, η, rs, rh, p⟩ := hq
  exact p η H σV Stp.refl rh rs
theorem ss_cons (h1 : PS X st (tS ⟨X.K, jt⟩ W a)) (h2 : PSs X rest (tS ⟨X.K, jt⟩ W b)) : PSs X (st :: rest) (tS ⟨X.K, jt⟩ W (seqS a b)) := pss_of (pss_cons h1 h2) fun Dn σV H hq => by
  obtain ⟨B, σ, h, η, rs, rh, p⟩ := hq
  refine ⟨B, σ, h, η, rs, rh, ?_⟩
  unfold seqS at p
  cases ea : a σ h with
  | nx σ1 h1 =>
    rw [ea] at p
    exact fun η1 H1 σV1 s rh1 rs1 => ⟨B, σ1, h1, η1, rs1, rh1, PostS.from s p⟩
  | rt d h1 => rw [ea] at p; exact p
  | bk d h1 => rw [ea] at p; exact p
  | ct d h1 => rw [ea] at p; exact p
  | exc x s1 h1 => rw [ea] at p; exact p
  | stuck => rw [ea] at p; exact p.elim
theorem ss_one (h1 : PS X st (tS ⟨X.K, jt⟩ W a)) : PSs X [st] (tS ⟨X.K, jt⟩ W a) := pss_one h1
theorem s_pass : PS X (.Pass pos) (tS ⟨X.K, jt⟩ W nopS) := ps_of ps_pass fun Dn σV H hq => by
  obtain ⟨B, σ, h, η, rs, rh, p⟩ := hq
  exact p η H σV Stp.refl rh rs
theorem s_brk : PS X (.Break pos) (tS ⟨X.K, jt⟩ W brkS) := ps_of ps_break fun Dn σV H hq => by
  obtain ⟨B, σ, h, η, rs, rh, p⟩ := hq
  exact p η H σV Stp.refl rh rs
theorem s_cnt : PS X (.Continue pos) (tS ⟨X.K, jt⟩ W cntS) := ps_of ps_continue fun Dn σV H hq => by
  obtain ⟨B, σ, h, η, rs, rh, p⟩ := hq
  exact p η H σV Stp.refl rh rs
theorem s_expr (he : PE X e (tE ⟨X.K, jt⟩ W m)) (hs : swapsWith e none pos.line X.env = pure false := by rfl) : PS X (.Expr e pos) (tS ⟨X.K, jt⟩ W (dropS m)) := ps_of (ps_expr he hs) fun Dn σV H hq => by
  obtain ⟨B, σ, h, η, rs, rh, p⟩ := hq
  exact ⟨B, σ, h, η, rs, rh, postS_of rs p fun d h1 η1 H1 v _ s rh1 rv p1 => p1 η1 H1 σV Stp.refl rh1 (rs.step s)⟩
theorem s_ret (he : PE X e (tE ⟨X.K, jt⟩ W m)) : PS X (.Return (some e) pos) (tS ⟨X.K, jt⟩ W (retS m)) := ps_of (ps_ret he) fun Dn σV H hq => by
  obtain ⟨B, σ, h, η, rs, rh, p⟩ := hq
  exact ⟨B, σ, h, η, rs, rh, postS_of rs p fun d h1 η1 H1 v _ s rh1 rv p1 => p1 η1 H1 v Stp.refl rh1 rv⟩
theorem s_if (hc : PT X c (tT ⟨X.K, jt⟩ W n)) (ha : PSs X sts (tS ⟨X.K, jt⟩ W a)) (hb : PSs X rest (tS ⟨X.K, jt⟩ W b)) : PS X (.If c sts rest pos) (tS ⟨X.K, jt⟩ W (ifS n a b)) := ps_of (ps_if hc ha hb) fun Dn σV H hq => by
  obtain ⟨B, σ, h, η, rs, rh, p⟩ := hq
  refine ⟨B, σ, h, η, rs, rh, postS_of rs p fun d h1 η1 H1 v _ s rh1 rv p1 => ?_⟩
  cases (show d = v from rv)
  cases d with
  | true => exact ⟨B, σ, h1, η1, rs.step s, rh1, p1⟩
  | false => exact ⟨B, σ, h1, η1, rs.step s, rh1, p1⟩
theorem s_set {i : Nat} {x : Str} {pos' : Pos} (hN : X.N.Nodup) (he : PE X e (tE ⟨X.K, jt⟩ W m)) (hi : X.N[i]? = some x := by rfl) (hx : Loc X.env.scope x := by first | exact Or.inl rfl | exact Or.inr rfl) (hs : swapsWith e (some (.Name x pos')) pos.line X.env = pure false := by rfl)
    (hf : X.fn x = true ∨ X.env.scope.names.lookup x = some .local := by first | exact .inl rfl | exact .inr rfl | assumption) :
    PS X (.Assign [.Name x pos'] e pos) (tS ⟨X.K, jt⟩ W (setS i m)) := ps_of (ps_set hN hi hx he hs hf) fun Dn σV H hq => by
  obtain ⟨B, σ, h, η, rs, rh, p⟩ := hq
  exact ⟨B, σ, h, η, rs, rh, postS_of rs p fun d h1 η1 H1 v _ s rh1 rv p1 => p1 η1 H1 _ Stp.refl rh1 ((rs.step s).set rv)⟩
end
end RF

set_option maxRecDepth 100000
set_option maxHeartbeats 1000000
/-! RFc: operators by values: arithmetic, comparisons (== of data at any depth), in, subscripts, slices, built-ins that look at values. -/
namespace RF
open PySem PySem.Spec PyProof.Rows L2
variable {jt : Jt}
/-! ### a tree's own list -/
def lstOf (h : AH) : D → Option (List D)
  | .lst l => some l
  | .frz l => some l
  | .ref i => match h[i]? with
    | some (.lst l) => some l
    | _ => none
  | _ => none
/-- lists that stand in the abstract heap by themselves -/
def catOf (h : AH) : D → Option (List D)
  | .lst l => some l
  | .ref i => match h[i]? with
    | some (.lst l) => some l
    | _ => none
  | _ => none
section
variable {Z : Zt} {η : Nat → Addr} {n : Nat} {H : Hp} {h : AH} {v : V}
theorem Nd.sqT {a : Addr} {vs : List V} (q : Nd Z η n H .tup a vs) : SqT Z.K H a vs := by
  rcases q with ⟨u, q, ⟨o, rfl, _⟩, _⟩ | q
  · exact .inl (.inr ⟨o, q⟩)
  · exact KwT.sq q
theorem Nd.sqF {a : Addr} {vs : List V} (q : Nd Z η n H .frz a vs) : SqL Z.K H a vs := by
  rcases q with ⟨u, q, rfl | ⟨o, rfl⟩, _⟩ | q
  · exact .inl (.inl q)
  · exact .inl (.inr ⟨o, q⟩)
  · exact .inr q
theorem Nd.lst {a : Addr} {vs : List V} (q : Nd Z η n H .lst a vs) : H a = some (.lst vs) := by
  rcases q with ⟨u, q, rfl, _⟩ | q
  · exact q
  · exact q.elim
theorem RV.tupS {l : List D} (r : RV Z η n H (.tup l) v) : ∃ a vs, v = .ref a ∧ SqT Z.K H a vs ∧ RVs Z η n H l vs := by
  unfold RV at r
  obtain ⟨a, vs, e, q, rs⟩ := r
  exact ⟨a, vs, e, q.sqT, rs⟩
theorem RV.lstS {d : D} {l : List D} (rh : RH Z η h H) (r : RV Z η h.length H d v) (e : lstOf h d = some l) : ∃ a vs, v = .ref a ∧ SqL Z.K H a vs ∧ RVs Z η h.length H l vs := by
  cases d with
  | lst l' =>
    cases e
    unfold RV at r
    obtain ⟨a, vs, e, q, rs⟩ := r
    exact ⟨a, vs, e, .inl (.inl q.lst), rs⟩
  | frz l' =>
    cases e
    unfold RV at r
    obtain ⟨a, vs, e, q, rs⟩ := r
    exact ⟨a, vs, e, q.sqF, rs⟩
  | ref i =>
    unfold RV at r
    simp only [lstOf] at e
    cases ei : h[i]? with
    | none => simp only [ei] at e; cases e
    | some o =>
      simp only [ei] at e
      cases o with
      | lst l' =>
        cases e
        obtain ⟨u, e1, vs, e2, rs⟩ := rh.obj i _ ei
        subst e2
        exact ⟨η i, vs, r.1, .inl (.inl e1), rs⟩
      | _ => cases e
  | _ => cases e
theorem RV.catS {d : D} {l : List D} (rh : RH Z η h H) (r : RV Z η h.length H d v) (e : catOf h d = some l) : ∃ a vs, v = .ref a ∧ H a = some (.lst vs) ∧ RVs Z η h.length H l vs := by
  cases d with
  | lst l' =>
    cases e
    unfold RV at r
    obtain ⟨a, vs, e, q, rs⟩ := r
    exact ⟨a, vs, e, q.lst, rs⟩
  | ref i =>
    unfold RV at r
    simp only [catOf] at e
    cases ei : h[i]? with
    | none => simp only [ei] at e; cases e
    | some o =>
      simp only [ei] at e
      cases o with
      | lst l' =>
        cases e
        obtain ⟨u, e1, vs, e2, rs⟩ := rh.obj i _ ei
        subst e2
        exact ⟨η i, vs, r.1, e1, rs⟩
      | _ => cases e
  | _ => cases e
theorem RV.intS {i : Int} (r : RV Z η n H (.int i) v) : v = .int i := by unfold RV at r; exact r
theorem RV.strS {i : Str} (r : RV Z η n H (.str i) v) : v = .str i := by unfold RV at r; exact r
theorem RV.nonS (r : RV Z η n H .non v) : v = .non := by unfold RV at r; exact r
theorem RV.blS {b : Bool} (r : RV Z η n H (.bl b) v) : v = .bl b := by unfold RV at r; exact r
theorem RV.cstS {c : V} (r : RV Z η n H (.cst c) v) : v = c := by unfold RV at r; exact r
theorem RV.int {i : Int} : RV Z η n H (.int i) (.int i) := by unfold RV; rfl
theorem RV.str {i : Str} : RV Z η n H (.str i) (.str i) := by unfold RV; rfl
theorem RV.bl {b : Bool} : RV Z η n H (.bl b) (.bl b) := by unfold RV; rfl
theorem RV.non : RV Z η n H .non .non := by unfold RV; rfl
theorem RVs.nil : RVs Z η n H [] [] := by unfold RVs; rfl
theorem RVs.cons {d : D} {l : List D} {vs : List V} (r : RV Z η n H d v) (rs : RVs Z η n H l vs) : RVs Z η n H (d :: l) (v :: vs) := by unfold RVs; exact ⟨v, vs, rfl, r, rs⟩
theorem RVs.append : ∀ {l l' : List D} {vs vs' : List V}, RVs Z η n H l vs → RVs Z η n H l' vs' → RVs Z η n H (l ++ l') (vs ++ vs')
  | [], l', vs, vs', r, r' => by unfold RVs at r; rw [r]; exact r'
  | d :: l, l', vs, vs', r, r' => by
    unfold RVs at r
    obtain ⟨v, r0, rfl, r1, r2⟩ := r
    exact RVs.cons r1 (RVs.append r2 r')
theorem RVs.get : ∀ {l : List D} {vs : List V} {i : Nat} {d : D}, RVs Z η n H l vs → l[i]? = some d → ∃ v, vs[i]? = some v ∧ RV Z η n H d v
  | [], vs, i, d, r, e => by simp at e
  | d' :: l, vs, 0, d, r, e => by
    unfold RVs at r
    obtain ⟨v, r0, rfl, r1, r2⟩ := r
    simp at e; subst e
    exact ⟨v, rfl, r1⟩
  | d' :: l, vs, i + 1, d, r, e => by
    unfold RVs at r
    obtain ⟨v, r0, rfl, r1, r2⟩ := r
    simp at e
    obtain ⟨v', e', r'⟩ := RVs.get r2 e
    exact ⟨v', by simpa using e', r'⟩
theorem RVs.take : ∀ {l : List D} {vs : List V} (k : Nat), RVs Z η n H l vs → RVs Z η n H (l.take k) (vs.take k)
  | [], vs, k, r => by unfold RVs at r; rw [r]; simp; exact RVs.nil
  | d :: l, vs, 0, r => by simp; exact RVs.nil
  | d :: l, vs, k + 1, r => by
    unfold RVs at r
    obtain ⟨v, r0, rfl, r1, r2⟩ := r
    simp
    exact RVs.cons r1 (RVs.take k r2)
theorem RVs.drop : ∀ {l : List D} {vs : List V} (k : Nat), RVs Z η n H l vs → RVs Z η n H (l.drop k) (vs.drop k)
  | [], vs, k, r => by unfold RVs at r; rw [r]; simp; exact RVs.nil
  | d :: l, vs, 0, r => by simpa using r
  | d :: l, vs, k + 1, r => by
    unfold RVs at r
    obtain ⟨v, r0, rfl, r1, r2⟩ := r
    simp
    exact RVs.drop k r2
theorem RVs.at {l : List D} {vs : List V} {i : Int} {d : D} (r : RVs Z η n H l vs) (e : atI l i = some d) : ∃ v, atI vs i = some v ∧ RV Z η n H d v := by
  unfold atI at e ⊢
  rw [← RVs.length _ _ r]
  cases ei : ixN l.length i with
  | none => rw [ei] at e; cases e
  | some j =>
    rw [ei] at e
    exact RVs.get r e
end
/-! ### operators by values -/
/-- f tells what the rule r asks (nothing is raised) -/
def OpA (K : PySem.W.Frag) (r : R2) (f : D → D → AH → R D) : Prop := ∀ (B : Addr → Prop) (jt : Jt) (W : WX) (σV : L2.St) (η : Nat → Addr) (h : AH) (H : Hp) (x y : D) (v u : V) (Q : VK), RH ⟨K, B, jt⟩ η h H → RV ⟨K, B, jt⟩ η h.length H x v → RV ⟨K, B, jt⟩ η h.length H y u →
  Post ⟨K, B, jt⟩ W σV η h.length H (relV ⟨K, B, jt⟩) (f x y h) Q → r v u H Q
def opE (f : D → D → AH → R D) (a b : E1 D) : E1 D := fun σ h => (a σ h).bind fun x h1 => (b σ h1).bind fun y h2 => f x y h2
def unE (f : D → AH → R D) (a : E1 D) : E1 D := fun σ h => (a σ h).bind fun x h1 => f x h1
/-- a reading of two expressions -/
theorem tOp_of {K : PySem.W.Frag} {W : WX} {r : R2} {f : D → D → AH → R D} {ma mb : E1 D} (hf : OpA K r f) (σV : L2.St) (H : Hp) (Q : VK) (hq : tE ⟨K, jt⟩ W (opE f ma mb) σV H Q) : tOp r (tE ⟨K, jt⟩ W ma) (tE ⟨K, jt⟩ W mb) σV H Q := by
  obtain ⟨B, σ, h, η, rs, rh, p⟩ := hq
  refine ⟨B, σ, h, η, rs, rh, Post.sq p fun x h1 η1 H1 v _ s rh1 rv p1 => ?_⟩
  refine ⟨B, σ, h1, η1, rs.step s, rh1, Post.sq p1 fun y h2 η2 H2 u _ s2 rh2 ru p2 => ?_⟩
  exact hf B jt W σV η2 h2 H2 x y v u Q rh2 (RV.step s2 _ _ rv) ru p2
section
variable {X : Cx} {W : WX} {a b c : Expr} {ma mb mc : E1 D} {pos : Pos} {r r' : R2} {f f' : D → D → AH → R D}
theorem e_op {op : Operator} (ho : OpR X (binaryOp op) r) (hf : OpA X.K r f) (ha : PE X a (tE ⟨X.K, jt⟩ W ma)) (hb : PE X b (tE ⟨X.K, jt⟩ W mb)) : PE X (.BinOp a op b pos) (tE ⟨X.K, jt⟩ W (opE f ma mb)) := pe_of (pe_op ho ha hb) (tOp_of hf)
theorem e_cmp {op : CmpOp} (ho : OpR X (compareOp op) r) (hf : OpA X.K r f) (ha : PE X a (tE ⟨X.K, jt⟩ W ma)) (hb : PE X b (tE ⟨X.K, jt⟩ W mb)) (hm : behindInMarks op b = false := by first | exact nomark _ | rfl) : PE X (.Compare a [op] [b] pos) (tE ⟨X.K, jt⟩ W (opE f ma mb)) := pe_of (pe_cmpR ho ha hb hm) (tOp_of hf)
theorem t_cmp {op : CmpOp} (ho : OpR X (compareOp op) r) (hf : OpA X.K r f) (ha : PE X a (tE ⟨X.K, jt⟩ W ma)) (hb : PE X b (tE ⟨X.K, jt⟩ W mb)) (hm : behindInMarks op b = false := by first | exact nomark _ | rfl) : PT X (.Compare a [op] [b] pos) (tT ⟨X.K, jt⟩ W (valT (opE f ma mb))) := pt_of (pt_cmpR ho ha hb hm) fun σV H Q hq => by
  refine tOp_of (W := W) (f := f) hf σV H _ ?_
  obtain ⟨B, σ, h, η, rs, rh, p⟩ := hq
  refine ⟨B, σ, h, η, rs, rh, Post.sq p fun d h1 η1 H1 v _ s rh1 rv p1 => ?_⟩
  cases d with
  | bl k => exact ⟨k, rel_bl rv, p1 η1 H1 k Stp.refl rh1 rfl⟩
  | _ => exact p1.elim
/-- a op b op' c -/
def chE (f f' : D → D → AH → R D) (a b c : E1 D) : E1 D := fun σ h => (a σ h).bind fun x h1 => (b σ h1).bind fun y h2 => (f x y h2).bind fun z h3 => match z with
  | .bl k => if k then (c σ h3).bind fun w h4 => f' y w h4 else .ok (.bl false) h3
  | _ => .stuck
theorem tChain_of {K : PySem.W.Frag} {W : WX} (hf : OpA K r f) (hf' : OpA K r' f') (σV : L2.St) (H : Hp) (Q : VK) (hq : tE ⟨K, jt⟩ W (chE f f' ma mb mc) σV H Q) : tChain r r' (tE ⟨K, jt⟩ W ma) (tE ⟨K, jt⟩ W mb) (tE ⟨K, jt⟩ W mc) σV H Q := by
  obtain ⟨B, σ, h, η, rs, rh, p⟩ := hq
  refine ⟨B, σ, h, η, rs, rh, Post.sq p fun x h1 η1 H1 v _ s rh1 rv p1 => ?_⟩
  refine ⟨B, σ, h1, η1, rs.step s, rh1, Post.sq p1 fun y h2 η2 H2 u _ s2 rh2 ru p2 => ?_⟩
  refine hf B jt W σV η2 h2 H2 x y v u _ rh2 (RV.step s2 _ _ rv) ru (Post.sq p2 fun z h3 η3 H3 vz _ s3 rh3 rz p3 => ?_)
  cases z with
  | bl k =>
    refine ⟨k, rel_bl rz, ?_⟩
    cases k with
    | false => exact p3 η3 H3 _ Stp.refl rh3 RV.bl
    | true => exact ⟨B, σ, h3, η3, ((rs.step s).step s2).step s3, rh3, Post.sq p3 fun w h4 η4 H4 vw _ s4 rh4 rw' p4 => hf' B jt W σV η4 h4 H4 y w u vw Q rh4 (RV.step s4 _ _ (RV.step s3 _ _ ru)) rw' p4⟩
  | _ => exact p3.elim
theorem e_chain {op op' : CmpOp} (ho : OpR X (compareOp op) r) (hf : OpA X.K r f) (ho' : OpR X (compareOp op') r') (hf' : OpA X.K r' f') (ha : PE X a (tE ⟨X.K, jt⟩ W ma)) (hb : PE X b (tE ⟨X.K, jt⟩ W mb)) (hc : PE X c (tE ⟨X.K, jt⟩ W mc))
    (hm : lastMarks [op, op'] [b, c] = false := by with_unfolding_all rfl) : PE X (.Compare a [op, op'] [b, c] pos) (tE ⟨X.K, jt⟩ W (chE f f' ma mb mc)) := pe_of (pe_chain ho ho' ha hb hc hm) (tChain_of hf hf')
theorem t_chain {op op' : CmpOp} (ho : OpR X (compareOp op) r) (hf : OpA X.K r f) (ho' : OpR X (compareOp op') r') (hf' : OpA X.K r' f') (ha : PE X a (tE ⟨X.K, jt⟩ W ma)) (hb : PE X b (tE ⟨X.K, jt⟩ W mb)) (hc : PE X c (tE ⟨X.K, jt⟩ W mc))
    (hm : lastMarks [op, op'] [b, c] = false := by with_unfolding_all rfl) : PT X (.Compare a [op, op'] [b, c] pos) (tT ⟨X.K, jt⟩ W (valT (chE f f' ma mb mc))) := pt_of (pt_chain ho ho' ha hb hc hm) fun σV H Q hq => by
  refine tChain_of (W := W) (f := f) (f' := f') hf hf' σV H _ ?_
  obtain ⟨B, σ, h, η, rs, rh, p⟩ := hq
  refine ⟨B, σ, h, η, rs, rh, Post.sq p fun d h1 η1 H1 v _ s rh1 rv p1 => ?_⟩
  cases d with
  | bl k => exact ⟨k, rel_bl rv, p1 η1 H1 k Stp.refl rh1 rfl⟩
  | _ => exact p1.elim
theorem e_un {op : UnaryOp} {r : V → Hp → VK → Prop} {f : D → AH → R D} (ho : UnR X (unaryOp op) r) (hf : ∀ (B : Addr → Prop) (jt : Jt) (W : WX) (σV : L2.St) (η : Nat → Addr) (h : AH) (H : Hp) (x : D) (v : V) (Q : VK), RH ⟨X.K, B, jt⟩ η h H → RV ⟨X.K, B, jt⟩ η h.length H x v →
    Post ⟨X.K, B, jt⟩ W σV η h.length H (relV ⟨X.K, B, jt⟩) (f x h) Q → r v H Q) (ha : PE X a (tE ⟨X.K, jt⟩ W ma)) : PE X (.UnaryOp op a pos) (tE ⟨X.K, jt⟩ W (unE f ma)) := pe_of (pe_un ho ha) fun σV H Q hq => by
  obtain ⟨B, σ, h, η, rs, rh, p⟩ := hq
  exact ⟨B, σ, h, η, rs, rh, Post.sq p fun x h1 η1 H1 v _ s rh1 rv p1 => hf B jt W σV η1 h1 H1 x v Q rh1 rv p1⟩
end
/-! ### ints -/
def intD (f : Int → Int → Option D) : D → D → AH → R D
  | .int i, .int j, h => match f i j with
    | some d => .ok d h
    | none => .stuck
  | _, _, _ => .stuck
/-- two ints, by a rule of two ints -/
theorem opA_int {K : PySem.W.Frag} {r : R2} {f : Int → Int → Option D} (g : ∀ (i j : Int) (d : D), f i j = some d → ∃ v : V, (∀ B jt η n H, RV ⟨K, B, jt⟩ η n H d v) ∧ ∀ (H : Hp) (Q : VK), Q v H → r (.int i) (.int j) H Q) : OpA K r (intD f) := by
  intro B jt W σV η h H x y v u Q rh rx ry p
  cases x with
  | int i =>
    cases y with
    | int j =>
      rw [rx.intS, ry.intS]
      simp only [intD] at p
      cases ef : f i j with
      | none => simp only [ef] at p; exact p.elim
      | some d =>
        simp only [ef] at p
        obtain ⟨w, hw, k⟩ := g i j d ef
        exact k H Q (p η H w Stp.refl rh (hw _ _ _ _ _))
    | _ => exact p.elim
  | _ => exact p.elim
def ltF (i j : Int) : Option D := some (.bl (decide (i < j)))
def leF (i j : Int) : Option D := some (.bl (decide (i ≤ j)))
def gtF (i j : Int) : Option D := some (.bl (decide (j < i)))
def geF (i j : Int) : Option D := some (.bl (decide (j ≤ i)))
def subF (i j : Int) : Option D := some (.int (i - j))
def fdivF (i j : Int) : Option D := if 0 < j ∧ j < 1073741824 then some (.int (i / j)) else none
def modF (i j : Int) : Option D := if 0 < j then some (.int (i % j)) else none
def powF (i j : Int) : Option D := if 0 ≤ j ∧ j ≤ 1000000 ∧ i.natAbs < 18446744073709551616 then some (.int (i ^ j.toNat)) else none
theorem oa_lt {K : PySem.W.Frag} : OpA K (rI0 fun i j => .bl (decide (i < j))) (intD ltF) := opA_int fun i j d e => by
  cases e; exact ⟨_, fun _ _ _ _ _ => RV.bl, fun H Q q => ⟨i, j, rfl, rfl, q⟩⟩
theorem oa_le {K : PySem.W.Frag} : OpA K (rI0 fun i j => .bl (decide (i ≤ j))) (intD leF) := opA_int fun i j d e => by
  cases e; exact ⟨_, fun _ _ _ _ _ => RV.bl, fun H Q q => ⟨i, j, rfl, rfl, q⟩⟩
theorem oa_gt {K : PySem.W.Frag} : OpA K (rI0 fun i j => .bl (decide (j < i))) (intD gtF) := opA_int fun i j d e => by
  cases e; exact ⟨_, fun _ _ _ _ _ => RV.bl, fun H Q q => ⟨i, j, rfl, rfl, q⟩⟩
theorem oa_ge {K : PySem.W.Frag} : OpA K (rI0 fun i j => .bl (decide (j ≤ i))) (intD geF) := opA_int fun i j d e => by
  cases e; exact ⟨_, fun _ _ _ _ _ => RV.bl, fun H Q q => ⟨i, j, rfl, rfl, q⟩⟩
theorem oa_sub {K : PySem.W.Frag} : OpA K (rI0 fun i j => .int (i - j)) (intD subF) := opA_int fun i j d e => by
  cases e; exact ⟨_, fun _ _ _ _ _ => RV.int, fun H Q q => ⟨i, j, rfl, rfl, q⟩⟩
theorem oa_fdiv {K : PySem.W.Frag} : OpA K (rI CDiv fun i j => .int (i / j)) (intD fdivF) := opA_int fun i j d e => by
  unfold fdivF at e
  split at e
  · cases e; exact ⟨_, fun _ _ _ _ _ => RV.int, fun H Q q => ⟨i, j, rfl, rfl, by assumption, q⟩⟩
  · cases e
theorem oa_mod {K : PySem.W.Frag} : OpA K (rI (fun _ j => 0 < j) fun i j => .int (i % j)) (intD modF) := opA_int fun i j d e => by
  unfold modF at e
  split at e
  · cases e; exact ⟨_, fun _ _ _ _ _ => RV.int, fun H Q q => ⟨i, j, rfl, rfl, by assumption, q⟩⟩
  · cases e
theorem oa_pow {K : PySem.W.Frag} : OpA K (rI CPow fun i j => .int (i ^ j.toNat)) (intD powF) := opA_int fun i j d e => by
  unfold powF at e
  split at e
  · rename_i hc
    cases e; exact ⟨_, fun _ _ _ _ _ => RV.int, fun H Q q => ⟨i, j, rfl, rfl, ⟨hc.1, hc.2.1, by have := hc.2.2; show i.natAbs < 2 ^ 64; omega⟩, q⟩⟩
  · cases e
def negD : D → AH → R D
  | .int i, h => .ok (.int (-i)) h
  | _, _ => .stuck
/-! ### + -/
def addD : D → D → AH → R D
  | .int i, .int j, h => .ok (.int (i + j)) h
  | .str x, .str y, h => if Nat.ble (x.length + y.length) 16777216 then .ok (.str (x ++ y)) h else .stuck
  | .tup l, .tup l', h => sized (l ++ l') (.ok (.tup (l ++ l')) h)
  | x, y, h => match catOf h x, catOf h y with
    | some l, some l' => sized (l ++ l') (.ok (.lst (l ++ l')) h)
    | _, _ => .stuck
def rAddA (K : PySem.W.Frag) : R2 := fun x y H Q => (rI0 fun i j => V.int (i + j)) x y H Q ∨ (∃ i j, x = .str i ∧ y = .str j ∧ i.length + j.length ≤ sizeLine ∧ Q (.str (i ++ j)) H) ∨ rCatF K x y H Q ∨ rCat x y H Q
theorem op_addA {X : Cx} : OpR X (binaryOp .Add) (rAddA X.K) := op_add.or (op_add_str.or (op_catF.or op_cat))
theorem cat_new {K : PySem.W.Frag} {B : Addr → Prop} {η : Nat → Addr} {h : AH} {H : Hp} {x y : D} {l l' : List D} {v u : V} {Q : VK} (rh : RH ⟨K, B, jt⟩ η h H) (rx : RV ⟨K, B, jt⟩ η h.length H x v) (ry : RV ⟨K, B, jt⟩ η h.length H y u) (ex : catOf h x = some l) (ey : catOf h y = some l')
    (hz : (l ++ l').length ≤ sizeLine) (k : ∀ q vs, H q = none → RVs ⟨K, B, jt⟩ η h.length H (l ++ l') vs → Q (.ref q) (upd H q (.lst vs))) : rCat v u H Q := by
  obtain ⟨a, vs, rfl, ha, r1⟩ := rx.catS rh ex
  obtain ⟨b, us, rfl, hb, r2⟩ := ry.catS rh ey
  refine ⟨a, b, vs, us, rfl, rfl, ha, hb, ?_, fun q hq => k q _ hq (r1.append r2)⟩
  rw [← RVs.length _ _ r1, ← RVs.length _ _ r2, ← List.length_append]; exact hz
theorem oa_add {K : PySem.W.Frag} : OpA K (rAddA K) addD := by
  intro B jt W σV η h H x y v u Q rh rx ry p
  have lists : ∀ l l', catOf h x = some l → catOf h y = some l' → Post ⟨K, B, jt⟩ W σV η h.length H (relV ⟨K, B, jt⟩) (sized (l ++ l') (.ok (.lst (l ++ l')) h)) Q → rAddA K v u H Q := fun l l' ex ey p => by
    obtain ⟨hz, p⟩ := sized_le p
    refine .inr (.inr (.inr (cat_new rh rx ry ex ey hz fun q vs hq r => ?_)))
    refine p η _ _ (Stp.new hq) (rh.new hq) ?_
    unfold relV RV
    exact ⟨q, vs, rfl, .inl ⟨_, upd_same, rfl, rh.none_ne hq, rh.nb hq⟩, RVs.step (Stp.new hq) _ _ r⟩
  have gen : Post ⟨K, B, jt⟩ W σV η h.length H (relV ⟨K, B, jt⟩) (match catOf h x, catOf h y with
    | some l, some l' => sized (l ++ l') (.ok (.lst (l ++ l')) h)
    | _, _ => .stuck) Q → rAddA K v u H Q := fun p => by
    cases ex : catOf h x with
    | none => rw [ex] at p; exact p.elim
    | some l =>
      cases ey : catOf h y with
      | none => rw [ex, ey] at p; exact p.elim
      | some l' => rw [ex, ey] at p; exact lists l l' ex ey p
  cases x with
  | int i =>
    cases y with
    | int j =>
      rw [rx.intS, ry.intS]
      exact .inl ⟨i, j, rfl, rfl, p η H _ Stp.refl rh RV.int⟩
    | _ => exact gen p
  | str i =>
    cases y with
    | str j =>
      rw [rx.strS, ry.strS]
      replace p : Post ⟨K, B, jt⟩ W σV η h.length H (relV ⟨K, B, jt⟩) (if Nat.ble (i.length + j.length) 16777216 then .ok (.str (i ++ j)) h else .stuck) Q := p
      by_cases hb : Nat.ble (i.length + j.length) 16777216 = true
      · rw [if_pos hb] at p
        exact .inr (.inl ⟨i, j, rfl, rfl, by rw [sizeLine_eq]; exact Nat.le_of_ble_eq_true hb, p η H _ Stp.refl rh RV.str⟩)
      · rw [if_neg hb] at p; exact p.elim
    | _ => exact gen p
  | tup l =>
    cases y with
    | tup l' =>
      replace p : Post ⟨K, B, jt⟩ W σV η h.length H (relV ⟨K, B, jt⟩) (sized (l ++ l') (.ok (.tup (l ++ l')) h)) Q := p
      obtain ⟨hz, p⟩ := sized_le p
      obtain ⟨a, vs, rfl, ha, r1⟩ := rx.tupS
      obtain ⟨b, us, rfl, hb, r2⟩ := ry.tupS
      have l1 := RVs.length _ _ r1
      have l2 := RVs.length _ _ r2
      refine .inr (.inr (.inl ⟨a, b, vs, us, rfl, rfl, ha, hb, by rw [← l1, ← l2, ← List.length_append]; exact hz, fun e => ?_, fun _ e => ?_, fun _ _ => post_tup rh (r1.append r2) p⟩))
      · subst e
        have : l = [] := List.length_eq_zero_iff.mp l1
        subst this
        exact p η H _ Stp.refl rh ry
      · subst e
        have : l' = [] := List.length_eq_zero_iff.mp l2
        subst this
        rw [List.append_nil] at p
        exact p η H _ Stp.refl rh rx
    | _ => exact gen p
  | _ => exact gen p
/-- a list's sum as a new one -/
def catN (a b : E1 D) : E1 (List D) := fun σ h => (a σ h).bind fun x h1 => (b σ h1).bind fun y h2 => match catOf h2 x, catOf h2 y with
  | some l, some l' => sized (l ++ l') (.ok (l ++ l') h2)
  | _, _ => .stuck
theorem e_catN {X : Cx} {W : WX} {a b : Expr} {ma mb : E1 D} {pos : Pos} (ha : PE X a (tE ⟨X.K, jt⟩ W ma)) (hb : PE X b (tE ⟨X.K, jt⟩ W mb)) : PE X (.BinOp a .Add b pos) (tN ⟨X.K, jt⟩ W (catN ma mb)) := pe_of (pe_op op_cat ha hb) fun σV H Q hq => by
  obtain ⟨B, σ, h, η, rs, rh, p⟩ := hq
  refine ⟨B, σ, h, η, rs, rh, Post.seq (relB' := fun η2 h2 H2 d v => NewL ⟨X.K, B, jt⟩ H η2 h2 H2 d v) p (fun _ _ _ _ _ _ _ _ _ _ q => q) fun x h1 η1 H1 v _ s rh1 rv p1 => ?_⟩
  refine ⟨B, σ, h1, η1, rs.step s, rh1, Post.seq (relB' := fun η2 h2 H2 d v => NewL ⟨X.K, B, jt⟩ H η2 h2 H2 d v) p1 (fun _ _ _ _ _ _ _ _ _ _ q => q) fun y h2 η2 H2 u _ s2 rh2 ru p2 => ?_⟩
  cases ex : catOf h2 x with
  | none => rw [ex] at p2; exact p2.elim
  | some l =>
    cases ey : catOf h2 y with
    | none => rw [ex, ey] at p2; exact p2.elim
    | some l' =>
      rw [ex, ey] at p2
      obtain ⟨hz, p2⟩ := sized_le p2
      exact cat_new rh2 (RV.step s2 _ _ rv) ru ex ey hz fun q vs hq r => p2 η2 _ _ (Stp.new hq) (rh2.new hq) (NewL.mk (s.trans s2) rh2 hq r)
/-! ### * -/
def mulF (i j : Int) : Option D := if (-18446744073709551616 < i ∧ i < 18446744073709551616) ∨ (-18446744073709551616 < j ∧ j < 18446744073709551616) then some (.int (i * j)) else none
theorem oa_mul {K : PySem.W.Frag} : OpA K (rI CMul fun i j => .int (i * j)) (intD mulF) := opA_int fun i j d e => by
  unfold mulF at e
  split at e
  · rename_i hc
    cases e
    refine ⟨_, fun _ _ _ _ _ => RV.int, fun H Q q => ⟨i, j, rfl, rfl, ?_, q⟩⟩
    rcases hc with hc | hc
    · exact .inl ⟨by have := hc.1; show -(2 ^ 64) < i; omega, by have := hc.2; show i < 2 ^ 64; omega⟩
    · exact .inr ⟨by have := hc.1; show -(2 ^ 64) < j; omega, by have := hc.2; show j < 2 ^ 64; omega⟩
  · cases e
/-! ### data: ==, in -/
mutual
def toPy0 : D → Option PyData
  | .non => some .none
  | .bl b => some (.bool b)
  | .int i => some (.int i)
  | .str x => if PyData.strOk x then some (.str x) else none
  | .tup l => (toPys0 l).map .tuple
  | .lst l => (toPys0 l).map .list
  | .frz l => (toPys0 l).map .list
  | .pr _ => none
  | .ref _ => none
  | .cst _ => none
def toPys0 : List D → Option (List PyData)
  | [] => some []
  | d :: l => match toPy0 d, toPys0 l with
    | some x, some y => some (x :: y)
    | _, _ => none
end
def toPy (h : AH) : D → Option PyData
  | .ref i => match h[i]? with
    | some (.lst l) => (toPys0 l).map .list
    | _ => none
  | d => toPy0 d
section
variable {Z : Zt} {η : Nat → Addr} {n : Nat} {H : Hp} {h : AH}
mutual
theorem toPy0_ok : ∀ (d : D) (v : V) (p : PyData), RV Z η n H d v → toPy0 d = some p → Dp Z.K H v p ∧ p.canLay0 = true
  | .non, v, p, r, e => by
    cases (show PyData.none = p from Option.some.inj e); rw [r.nonS]; exact ⟨.non, rfl⟩
  | .bl b, v, p, r, e => by
    cases (show PyData.bool b = p from Option.some.inj e); rw [r.blS]; exact ⟨.bl b, rfl⟩
  | .int i, v, p, r, e => by
    cases (show PyData.int i = p from Option.some.inj e); rw [r.intS]; exact ⟨.int i, rfl⟩
  | .str x, v, p, r, e => by
    unfold toPy0 at e
    by_cases hx : PyData.strOk x = true
    · rw [if_pos hx] at e
      cases e
      rw [r.strS]; exact ⟨.str x, by unfold PyData.canLay0; exact hx⟩
    · rw [if_neg hx] at e; cases e
  | .tup l, v, p, r, e => by
    unfold toPy0 at e
    cases el : toPys0 l with
    | none => rw [el] at e; cases e
    | some ps =>
      rw [el] at e
      cases (show PyData.tuple ps = p from Option.some.inj e)
      obtain ⟨a, vs, rfl, q, rs⟩ := r.tupS
      obtain ⟨q1, q2⟩ := toPys0_ok l vs ps rs el
      exact ⟨.tup q q1, by unfold PyData.canLay0; exact q2⟩
  | .lst l, v, p, r, e => by
    unfold toPy0 at e
    cases el : toPys0 l with
    | none => rw [el] at e; cases e
    | some ps =>
      rw [el] at e
      cases (show PyData.list ps = p from Option.some.inj e)
      unfold RV at r
      obtain ⟨a, vs, rfl, q, rs⟩ := r
      obtain ⟨q1, q2⟩ := toPys0_ok l vs ps rs el
      exact ⟨.lst (.inl (.inl q.lst)) q1, by unfold PyData.canLay0; exact q2⟩
  | .frz l, v, p, r, e => by
    unfold toPy0 at e
    cases el : toPys0 l with
    | none => rw [el] at e; cases e
    | some ps =>
      rw [el] at e
      cases (show PyData.list ps = p from Option.some.inj e)
      unfold RV at r
      obtain ⟨a, vs, rfl, q, rs⟩ := r
      obtain ⟨q1, q2⟩ := toPys0_ok l vs ps rs el
      exact ⟨.lst q.sqF q1, by unfold PyData.canLay0; exact q2⟩
  | .pr _, v, p, r, e => by cases e
  | .ref _, v, p, r, e => by cases e
  | .cst _, v, p, r, e => by cases e
theorem toPys0_ok : ∀ (l : List D) (vs : List V) (ps : List PyData), RVs Z η n H l vs → toPys0 l = some ps → DpAll Z.K H vs ps ∧ PyData.canLayAll0 ps = true
  | [], vs, ps, r, e => by
    unfold RVs at r; subst r
    cases (show [] = ps from Option.some.inj e)
    exact ⟨.nil, rfl⟩
  | d :: l, vs, ps, r, e => by
    unfold RVs at r
    obtain ⟨v, r0, rfl, r1, r2⟩ := r
    unfold toPys0 at e
    cases ed : toPy0 d with
    | none => rw [ed] at e; cases e
    | some x =>
      cases el : toPys0 l with
      | none => rw [ed, el] at e; cases e
      | some y =>
        rw [ed, el] at e
        cases (show x :: y = ps from Option.some.inj e)
        obtain ⟨q1, q2⟩ := toPy0_ok d v x r1 ed
        obtain ⟨q3, q4⟩ := toPys0_ok l r0 y r2 el
        exact ⟨.cons q1 q3, by unfold PyData.canLayAll0; rw [q2, q4]; rfl⟩
end
theorem toPy_ok {d : D} {v : V} {p : PyData} (rh : RH Z η h H) (r : RV Z η h.length H d v) (e : toPy h d = some p) : Dp Z.K H v p ∧ p.canLay0 = true := by
  cases d with
  | ref i =>
    simp only [toPy] at e
    cases ei : h[i]? with
    | none => simp only [ei] at e; cases e
    | some o =>
      simp only [ei] at e
      cases o with
      | lst l =>
        cases el : toPys0 l with
        | none =>
          have e2 : (toPys0 l).map PyData.list = some p := e
          rw [el] at e2; cases e2
        | some ps =>
          have e2 : (toPys0 l).map PyData.list = some p := e
          rw [el] at e2
          cases (show PyData.list ps = p from Option.some.inj e2)
          obtain ⟨a, vs, rfl, q, rs⟩ := RV.lstS (l := l) rh r (by simp only [lstOf, ei])
          obtain ⟨q1, q2⟩ := toPys0_ok l vs ps rs el
          exact ⟨.lst q q1, by unfold PyData.canLay0; exact q2⟩
      | _ => cases e
  | _ => exact toPy0_ok _ v p r e
end
def eqD (neg : Bool) (x y : D) (h : AH) : R D := match toPy h x, toPy h y with
  | some p, some q => if Nat.ble (min p.depth q.depth) 64 then .ok (.bl (neg ^^ PyData.eqv p q)) h else .stuck
  | _, _ => .stuck
def rEqP (K : PySem.W.Frag) (neg : Bool) : R2 := fun x y H Q => ∃ d e, Dp K H x d ∧ Dp K H y e ∧ d.canLay0 = true ∧ e.canLay0 = true ∧ min d.depth e.depth ≤ 64 ∧ Q (.bl (neg ^^ PyData.eqv d e)) H
theorem op_eqP {X : Cx} (hu : X.A.units + 64 < cLine) : OpR X (compareOp .Eq) (rEqP X.K false) := by
  intro pins s σ H x y v u Q I rx ry h
  obtain ⟨d, e, hd, he, sd, se, hm, q⟩ := h
  obtain ⟨as, r1⟩ := Dp.reads I d x v hd rx
  obtain ⟨bs, r2⟩ := Dp.reads I e y u he ry
  rw [Bool.false_xor] at q
  exact SeqAt.compareEq_reads r1 r2 sd se (by omega) ⟨.bl _, H, I, rfl, q⟩
theorem op_neP {X : Cx} (hu : X.A.units + 64 < cLine) : OpR X (compareOp .NotEq) (rEqP X.K true) := by
  intro pins s σ H x y v u Q I rx ry h
  obtain ⟨d, e, hd, he, sd, se, hm, q⟩ := h
  obtain ⟨as, r1⟩ := Dp.reads I d x v hd rx
  obtain ⟨bs, r2⟩ := Dp.reads I e y u he ry
  rw [Bool.true_xor] at q
  exact SeqAt.compareNe_reads r1 r2 sd se (by omega) ⟨.bl _, H, I, rfl, q⟩
theorem oa_eq {K : PySem.W.Frag} {neg : Bool} : OpA K (rEqP K neg) (eqD neg) := by
  intro B jt W σV η h H x y v u Q rh rx ry p
  unfold eqD at p
  cases ex : toPy h x with
  | none => rw [ex] at p; exact p.elim
  | some d =>
    cases ey : toPy h y with
    | none => rw [ex, ey] at p; exact p.elim
    | some e =>
      rw [ex, ey] at p
      by_cases hb : Nat.ble (min d.depth e.depth) 64 = true
      · simp only [hb, if_true] at p
        obtain ⟨q1, q2⟩ := toPy_ok rh rx ex
        obtain ⟨q3, q4⟩ := toPy_ok rh ry ey
        exact ⟨d, e, q1, q3, q2, q4, Nat.le_of_ble_eq_true hb, p η H _ Stp.refl rh RV.bl⟩
      · simp only [hb] at p; exact p.elim
/-- x in a list, a tuple, a text -/
def inD (neg : Bool) : D → D → AH → R D
  | .str x, .str y, h => .ok (.bl (neg ^^ !(Builtin.Str.occurrences y x 0 y.length 1).isEmpty)) h
  | x, y, h => match toPy h x, toPy h y with
    | some d, some (.list ds) => if Nat.ble (min (PyData.depthAll ds) d.depth) 64 then .ok (.bl (neg ^^ ds.any fun z => PyData.eqv z d)) h else .stuck
    | some d, some (.tuple ds) => if Nat.ble (min (PyData.depthAll ds) d.depth) 64 then .ok (.bl (neg ^^ ds.any fun z => PyData.eqv z d)) h else .stuck
    | _, _ => .stuck
def rInP (K : PySem.W.Frag) (neg : Bool) : R2 := fun x y H Q => (∃ i j, x = .str i ∧ y = .str j ∧ Q (.bl (neg ^^ !(Builtin.Str.occurrences j i 0 j.length 1).isEmpty)) H) ∨
  ∃ d ds, Dp K H x d ∧ (Dp K H y (.list ds) ∨ Dp K H y (.tuple ds)) ∧ d.canLay0 = true ∧ PyData.canLayAll0 ds = true ∧ min (PyData.depthAll ds) d.depth ≤ 64 ∧ Q (.bl (neg ^^ ds.any fun z => PyData.eqv z d)) H
theorem op_inP {X : Cx} (hu : X.A.units + 65 < cLine) : OpR X (compareOp .In) (rInP X.K false) := by
  intro pins s σ H x y v u Q I rx ry h
  rcases h with ⟨i, j, e1, e2, q⟩ | ⟨d, ds, hd, he, sd, se, hm, q⟩
  · rw [Bool.false_xor] at q
    exact op_in_str pins s σ H x y v u Q I rx ry ⟨i, j, e1, e2, q⟩
  · obtain ⟨as, r1⟩ := Dp.reads I d x v hd rx
    rw [Bool.false_xor] at q
    rcases he with he | he
    · obtain ⟨bs, r2⟩ := Dp.reads I _ y u he ry
      exact SeqAt.in_list_reads r2 r1 se sd (by omega) ⟨.bl _, H, I, rfl, q⟩
    · obtain ⟨bs, r2⟩ := Dp.reads I _ y u he ry
      exact SeqAt.in_tuple_reads r2 r1 se sd (by omega) ⟨.bl _, H, I, rfl, q⟩
theorem op_notInP {X : Cx} (hu : X.A.units + 65 < cLine) : OpR X (compareOp .NotIn) (rInP X.K true) := by
  intro pins s σ H x y v u Q I rx ry h
  rcases h with ⟨i, j, e1, e2, q⟩ | ⟨d, ds, hd, he, sd, se, hm, q⟩
  · rw [Bool.true_xor] at q
    exact op_notin_str pins s σ H x y v u Q I rx ry ⟨i, j, e1, e2, q⟩
  · obtain ⟨as, r1⟩ := Dp.reads I d x v hd rx
    rw [Bool.true_xor] at q
    rcases he with he | he
    · obtain ⟨bs, r2⟩ := Dp.reads I _ y u he ry
      exact SeqAt.notIn_list_reads r2 r1 se sd (by omega) ⟨.bl _, H, I, rfl, q⟩
    · obtain ⟨bs, r2⟩ := Dp.reads I _ y u he ry
      exact SeqAt.notIn_tuple_reads r2 r1 se sd (by omega) ⟨.bl _, H, I, rfl, q⟩
theorem oa_in {K : PySem.W.Frag} {neg : Bool} : OpA K (rInP K neg) (inD neg) := by
  intro B jt W σV η h H x y v u Q rh rx ry p
  have gen : Post ⟨K, B, jt⟩ W σV η h.length H (relV ⟨K, B, jt⟩) (match toPy h x, toPy h y with
    | some d, some (.list ds) => if Nat.ble (min (PyData.depthAll ds) d.depth) 64 then .ok (.bl (neg ^^ ds.any fun z => PyData.eqv z d)) h else .stuck
    | some d, some (.tuple ds) => if Nat.ble (min (PyData.depthAll ds) d.depth) 64 then .ok (.bl (neg ^^ ds.any fun z => PyData.eqv z d)) h else .stuck
    | _, _ => .stuck) Q → rInP K neg v u H Q := fun p => by
    cases ex : toPy h x with
    | none => rw [ex] at p; exact p.elim
    | some d =>
      obtain ⟨q1, q2⟩ := toPy_ok rh rx ex
      cases ey : toPy h y with
      | none => rw [ex, ey] at p; exact p.elim
      | some e =>
        rw [ex, ey] at p
        obtain ⟨q3, q4⟩ := toPy_ok rh ry ey
        cases e with
        | list ds =>
          by_cases hb : Nat.ble (min (PyData.depthAll ds) d.depth) 64 = true
          · simp only [hb, if_true] at p
            exact .inr ⟨d, ds, q1, .inl q3, q2, by unfold PyData.canLay0 at q4; exact q4, Nat.le_of_ble_eq_true hb, p η H _ Stp.refl rh RV.bl⟩
          · simp only [hb] at p; exact p.elim
        | tuple ds =>
          by_cases hb : Nat.ble (min (PyData.depthAll ds) d.depth) 64 = true
          · simp only [hb, if_true] at p
            exact .inr ⟨d, ds, q1, .inr q3, q2, by unfold PyData.canLay0 at q4; exact q4, Nat.le_of_ble_eq_true hb, p η H _ Stp.refl rh RV.bl⟩
          · simp only [hb] at p; exact p.elim
        | _ => exact p.elim
  cases x with
  | str i =>
    cases y with
    | str j =>
      rw [rx.strS, ry.strS]
      exact .inl ⟨i, j, rfl, rfl, p η H _ Stp.refl rh RV.bl⟩
    | _ => exact gen p
  | _ => exact gen p
/-- is None, is not None -/
def isNone : D → Option Bool
  | .non => some true
  | .cst v => none
  | _ => some false
def isND (neg : Bool) (x y : D) (h : AH) : R D := match y with
  | .non => match isNone x with
    | some b => .ok (.bl (neg ^^ b)) h
    | none => .stuck
  | _ => .stuck
theorem isNone_ok {Z : Zt} {η : Nat → Addr} {n : Nat} {H : Hp} {d : D} {v : V} {b : Bool} (r : RV Z η n H d v) (e : isNone d = some b) : decide (v = .non) = b := by
  cases d with
  | non => cases e; rw [r.nonS]; rfl
  | cst c => cases e
  | bl k => cases e; rw [r.blS]; rfl
  | int k => cases e; rw [r.intS]; rfl
  | str k => cases e; rw [r.strS]; rfl
  | tup l => cases e; obtain ⟨a, vs, rfl, _⟩ := r.tupS; rfl
  | lst l => cases e; unfold RV at r; obtain ⟨a, vs, rfl, _⟩ := r; rfl
  | frz l => cases e; unfold RV at r; obtain ⟨a, vs, rfl, _⟩ := r; rfl
  | pr l => cases e; unfold RV at r; obtain ⟨a, vs, rfl, _⟩ := r; rfl
  | ref i => cases e; unfold RV at r; rw [r.1]; rfl
theorem oa_isN {K : PySem.W.Frag} : OpA K (fun x y H Q => y = .non ∧ Q (.bl (decide (x = .non))) H) (isND false) := by
  intro B jt W σV η h H x y v u Q rh rx ry p
  cases y with
  | non =>
    unfold isND at p
    cases e : isNone x with
    | none => simp only [e] at p; exact p.elim
    | some b =>
      simp only [e, Bool.false_xor] at p
      refine ⟨ry.nonS, ?_⟩
      rw [isNone_ok rx e]
      exact p η H _ Stp.refl rh RV.bl
  | _ => exact p.elim
theorem oa_notN {K : PySem.W.Frag} : OpA K (fun x y H Q => y = .non ∧ Q (.bl (!decide (x = .non))) H) (isND true) := by
  intro B jt W σV η h H x y v u Q rh rx ry p
  cases y with
  | non =>
    unfold isND at p
    cases e : isNone x with
    | none => simp only [e] at p; exact p.elim
    | some b =>
      simp only [e, Bool.true_xor] at p
      refine ⟨ry.nonS, ?_⟩
      rw [isNone_ok rx e]
      exact p η H _ Stp.refl rh RV.bl
  | _ => exact p.elim
end RF

set_option maxRecDepth 100000
set_option maxHeartbeats 1000000
/-! RFd: subscripts, slices, calls of built-ins, what is walked, for, while, list comprehensions. -/
namespace RF
open PySem PySem.Spec PyProof.Rows L2
variable {jt : Jt}
/-! ### subscripts -/
def getO {α : Type} (o : Option α) (f : α → R D) : R D := match o with
  | some d => f d
  | none => .stuck
def ixD : D → D → AH → R D
  | .tup l, .int i, h => getO (atI l i) fun d => .ok d h
  | .str x, .int i, h => if Nat.ble x.length 16777216 then getO (atI x.cps.toList i) fun c => .ok (.str ⟨#[c]⟩) h else .stuck
  | x, .int i, h => getO (lstOf h x) fun l => getO (atI l i) fun d => .ok d h
  | _, _, _ => .stuck
def rIxA (K : PySem.W.Frag) : R2 := fun x y H Q => rIxT K x y H Q ∨ rIxL K x y H Q ∨ rIxS x y H Q
theorem ix_any {X : Cx} : IxR X (rIxA X.K) := ix_tup.or (ix_list.or ix_str)
theorem post_getO {α : Type} {Z : Zt} {W : WX} {σV : L2.St} {η : Nat → Addr} {n : Nat} {H : Hp} {rel : (Nat → Addr) → AH → Hp → D → V → Prop} {Q : VK} {o : Option α} {f : α → R D} (p : Post Z W σV η n H rel (getO o f) Q) : ∃ d, o = some d ∧ Post Z W σV η n H rel (f d) Q := by
  cases o with
  | none => exact p.elim
  | some d => exact ⟨d, rfl, p⟩
theorem oa_ix {K : PySem.W.Frag} : OpA K (rIxA K) ixD := by
  intro B jt W σV η h H x y v u Q rh rx ry p
  cases y with
  | int i =>
    have hu : u = .int i := ry.intS
    subst hu
    have gen : Post ⟨K, B, jt⟩ W σV η h.length H (relV ⟨K, B, jt⟩) (getO (lstOf h x) fun l => getO (atI l i) fun d => .ok d h) Q → rIxA K v (.int i) H Q := fun p => by
      obtain ⟨l, el, p⟩ := post_getO p
      obtain ⟨d, ed, p⟩ := post_getO p
      obtain ⟨a, vs, rfl, q, rs⟩ := rx.lstS rh el
      obtain ⟨w, ew, rw'⟩ := rs.at ed
      exact .inr (.inl ⟨a, vs, i, w, rfl, rfl, q, ew, p η H w Stp.refl rh rw'⟩)
    cases x with
    | tup l =>
      replace p : Post ⟨K, B, jt⟩ W σV η h.length H (relV ⟨K, B, jt⟩) (getO (atI l i) fun d => .ok d h) Q := p
      obtain ⟨d, ed, p⟩ := post_getO p
      obtain ⟨a, vs, rfl, q, rs⟩ := rx.tupS
      obtain ⟨w, ew, rw'⟩ := rs.at ed
      exact .inl ⟨a, vs, i, w, rfl, rfl, q, ew, p η H w Stp.refl rh rw'⟩
    | str z =>
      replace p : Post ⟨K, B, jt⟩ W σV η h.length H (relV ⟨K, B, jt⟩) (if Nat.ble z.length 16777216 then getO (atI z.cps.toList i) fun c => .ok (.str ⟨#[c]⟩) h else .stuck) Q := p
      by_cases hb : Nat.ble z.length 16777216 = true
      · rw [if_pos hb] at p
        obtain ⟨c, ec, p⟩ := post_getO p
        exact .inr (.inr ⟨z, i, c, rx.strS, rfl, by rw [sizeLine_eq]; exact Nat.le_of_ble_eq_true hb, ec, p η H _ Stp.refl rh RV.str⟩)
      · rw [if_neg hb] at p; exact p.elim
    | _ => exact gen p
  | _ => cases x <;> exact p.elim
theorem e_ix {X : Cx} {W : WX} {a b : Expr} {ma mb : E1 D} {pos : Pos} (ha : PE X a (tE ⟨X.K, jt⟩ W ma)) (hb : PE X b (tE ⟨X.K, jt⟩ W mb)) (hs : PlainIx b := by exact fun _ _ => rfl) : PE X (.Subscript a b pos) (tE ⟨X.K, jt⟩ W (opE ixD ma mb)) := pe_of (pe_ix ix_any ha hb hs) (tOp_of oa_ix)
/-! ### slices -/
def tO (J : Kj) (W : WX) (m : E1 (Option Int)) : TO := fun σV H Q => ∃ B σ h η, RS ⟨J.K, B, J.j⟩ η h.length H σ σV ∧ RH ⟨J.K, B, J.j⟩ η h H ∧ Post ⟨J.K, B, J.j⟩ W σV η h.length H (fun _ _ _ o o' => o = o') (m σ h) Q
def partE (m : E1 D) : E1 (Option Int) := fun σ h => (m σ h).bind fun d h' => match d with
  | .int i => .ok (some i) h'
  | _ => .stuck
def cut {α : Type} (l : List α) (lo hi : Option Int) : List α := (l.drop (HT.sIx l.length 0 lo)).take (HT.sIx l.length l.length hi - HT.sIx l.length 0 lo)
theorem RVs.cut {Z : Zt} {η : Nat → Addr} {n : Nat} {H : Hp} {l : List D} {vs : List V} (lo hi : Option Int) (r : RVs Z η n H l vs) : RVs Z η n H (cut l lo hi) (cutV vs lo hi) := by
  unfold RF.cut cutV
  rw [RVs.length _ _ r]
  exact (r.drop _).take _
def slD (x : D) (lo hi : Option Int) (h : AH) : R D := match x with
  | .tup l => .ok (.tup (cut l lo hi)) h
  | .str z => if Nat.ble z.length 16777216 then .ok (.str (cutS z lo hi)) h else .stuck
  | x => getO (lstOf h x) fun l => .ok (.lst (cut l lo hi)) h
def slE (a : E1 D) (lo hi : E1 (Option Int)) : E1 D := fun σ h => (a σ h).bind fun x h1 => (lo σ h1).bind fun i h2 => (hi σ h2).bind fun j h3 => slD x i j h3
def slN (a : E1 D) (lo hi : E1 (Option Int)) : E1 (List D) := fun σ h => (a σ h).bind fun x h1 => (lo σ h1).bind fun i h2 => (hi σ h2).bind fun j h3 => match lstOf h3 x with
  | some l => .ok (cut l i j) h3
  | none => .stuck
def rSlAll (K : PySem.W.Frag) : V → Option Int → Option Int → Hp → VK → Prop := fun x lo hi H Q => rSlF K x lo hi H Q ∨ rSlS x lo hi H Q ∨ rSlL K x lo hi H Q
theorem sl_any {X : Cx} : SlR X (rSlAll X.K) := sl_tupF.or (sl_str.or sl_list)
theorem cut_all {α : Type} (l : List α) (lo hi : Option Int) (h : HT.sIx l.length 0 lo = 0 ∧ HT.sIx l.length l.length hi = l.length) : cut l lo hi = l := by
  unfold cut
  rw [h.1, h.2]
  simp
section
variable {X : Cx} {W : WX} {a e : Expr} {lo hi : Option Expr} {ma m : E1 D} {ml mh : E1 (Option Int)} {pos p2 : Pos}
theorem o_none : PO X none (tO ⟨X.K, jt⟩ W (pureE none)) := ⟨fun pins s σ H Q I hq => (po_none (X := X)).run pins s σ H Q I (by
  obtain ⟨B, σ, h, η, rs, rh, p⟩ := hq
  exact p η H none Stp.refl rh rfl)⟩
theorem o_some (h : PE X e (tE ⟨X.K, jt⟩ W m)) : PO X (some e) (tO ⟨X.K, jt⟩ W (partE m)) := ⟨fun pins s σ H Q I hq => (po_some h).run pins s σ H Q I (by
  obtain ⟨B, σ, h, η, rs, rh, p⟩ := hq
  refine ⟨B, σ, h, η, rs, rh, Post.sq p fun d h1 η1 H1 v _ s rh1 rv p1 => ?_⟩
  cases d with
  | int i => exact ⟨i, rv.intS, p1 η1 H1 _ Stp.refl rh1 rfl⟩
  | _ => exact p1.elim)⟩
theorem e_slice (ha : PE X a (tE ⟨X.K, jt⟩ W ma)) (hl : PO X lo (tO ⟨X.K, jt⟩ W ml)) (hu : PO X hi (tO ⟨X.K, jt⟩ W mh)) : PE X (.Subscript a (.Slice lo hi none p2) pos) (tE ⟨X.K, jt⟩ W (slE ma ml mh)) := pe_of (pe_slice sl_any ha hl hu) fun σV H Q hq => by
  obtain ⟨B, σ, h, η, rs, rh, p⟩ := hq
  refine ⟨B, σ, h, η, rs, rh, Post.sq p fun x h1 η1 H1 v _ s rh1 rv p1 => ?_⟩
  refine ⟨B, σ, h1, η1, rs.step s, rh1, Post.sq p1 fun i h2 η2 H2 i' _ s2 rh2 ei p2 => ?_⟩
  cases (show i = i' from ei)
  refine ⟨B, σ, h2, η2, (rs.step s).step s2, rh2, Post.sq p2 fun j h3 η3 H3 j' _ s3 rh3 ej p3 => ?_⟩
  cases (show j = j' from ej)
  have rx : RV ⟨X.K, B, jt⟩ η3 h3.length H3 x v := RV.step s3 _ _ (RV.step s2 _ _ rv)
  have gen : Post ⟨X.K, B, jt⟩ W σV η3 h3.length H3 (relV ⟨X.K, B, jt⟩) (getO (lstOf h3 x) fun l => .ok (.lst (cut l i j)) h3) Q → rSlAll X.K v i j H3 Q := fun p => by
    obtain ⟨l, el, p⟩ := post_getO p
    obtain ⟨a, vs, rfl, q, rs⟩ := rx.lstS rh3 el
    refine .inr (.inr ⟨a, vs, rfl, q, fun q hq => p η3 _ _ (Stp.new hq) (rh3.new hq) ?_⟩)
    unfold relV RV
    exact ⟨q, _, rfl, .inl ⟨_, upd_same, rfl, rh3.none_ne hq, rh3.nb hq⟩, RVs.step (Stp.new hq) _ _ (rs.cut i j)⟩
  cases x with
  | tup l =>
    replace p3 : Post ⟨X.K, B, jt⟩ W σV η3 h3.length H3 (relV ⟨X.K, B, jt⟩) (.ok (.tup (cut l i j)) h3) Q := p3
    obtain ⟨a, vs, rfl, q, rs⟩ := rx.tupS
    refine .inl ⟨a, vs, rfl, q, fun hw => ?_, fun hw => post_tup rh3 (rs.cut i j) p3⟩
    rw [← RVs.length _ _ rs] at hw
    rw [cut_all l i j hw] at p3
    exact p3 η3 H3 _ Stp.refl rh3 rx
  | str z =>
    replace p3 : Post ⟨X.K, B, jt⟩ W σV η3 h3.length H3 (relV ⟨X.K, B, jt⟩) (if Nat.ble z.length 16777216 then .ok (.str (cutS z i j)) h3 else .stuck) Q := p3
    by_cases hb : Nat.ble z.length 16777216 = true
    · rw [if_pos hb] at p3
      exact .inr (.inl ⟨z, rx.strS, by rw [sizeLine_eq]; exact Nat.le_of_ble_eq_true hb, p3 η3 H3 _ Stp.refl rh3 RV.str⟩)
    · rw [if_neg hb] at p3; exact p3.elim
  | _ => exact gen p3
theorem e_sliceN (ha : PE X a (tE ⟨X.K, jt⟩ W ma)) (hl : PO X lo (tO ⟨X.K, jt⟩ W ml)) (hu : PO X hi (tO ⟨X.K, jt⟩ W mh)) : PE X (.Subscript a (.Slice lo hi none p2) pos) (tN ⟨X.K, jt⟩ W (slN ma ml mh)) := pe_of (pe_slice sl_list ha hl hu) fun σV H Q hq => by
  obtain ⟨B, σ, h, η, rs, rh, p⟩ := hq
  refine ⟨B, σ, h, η, rs, rh, Post.seq (relB' := fun η2 h2 H2 d v => NewL ⟨X.K, B, jt⟩ H η2 h2 H2 d v) p (fun _ _ _ _ _ _ _ _ _ _ q => q) fun x h1 η1 H1 v _ s rh1 rv p1 => ?_⟩
  refine ⟨B, σ, h1, η1, rs.step s, rh1, Post.seq (relB' := fun η2 h2 H2 d v => NewL ⟨X.K, B, jt⟩ H η2 h2 H2 d v) p1 (fun _ _ _ _ _ _ _ _ _ _ q => q) fun i h2 η2 H2 i' _ s2 rh2 ei p2 => ?_⟩
  cases (show i = i' from ei)
  refine ⟨B, σ, h2, η2, (rs.step s).step s2, rh2, Post.seq (relB' := fun η2 h2 H2 d v => NewL ⟨X.K, B, jt⟩ H η2 h2 H2 d v) p2 (fun _ _ _ _ _ _ _ _ _ _ q => q) fun j h3 η3 H3 j' _ s3 rh3 ej p3 => ?_⟩
  cases (show j = j' from ej)
  cases el : lstOf h3 x with
  | none => rw [el] at p3; exact p3.elim
  | some l =>
    rw [el] at p3
    obtain ⟨a, vs, rfl, q, rs⟩ := RV.lstS rh3 (RV.step s3 _ _ (RV.step s2 _ _ rv)) el
    exact ⟨a, vs, rfl, q, fun q hq => p3 η3 _ _ (Stp.new hq) (rh3.new hq) (NewL.mk ((s.trans s2).trans s3) rh3 hq (rs.cut i j))⟩
end
/-! ### calls of built-ins, by values -/
def CallA (K : PySem.W.Frag) (r : List V → Hp → VK → Prop) (f : List D → AH → R D) : Prop := ∀ (B : Addr → Prop) (jt : Jt) (W : WX) (σV : L2.St) (η : Nat → Addr) (h : AH) (H : Hp) (xs : List D) (vs : List V) (Q : VK), RH ⟨K, B, jt⟩ η h H → RVs ⟨K, B, jt⟩ η h.length H xs vs →
  Post ⟨K, B, jt⟩ W σV η h.length H (relV ⟨K, B, jt⟩) (f xs h) Q → r vs H Q
def callE (f : List D → AH → R D) (a : E1 (List D)) : E1 D := fun σ h => (a σ h).bind f
theorem tCB_of {K : PySem.W.Frag} {W : WX} {r : List V → Hp → VK → Prop} {f : List D → AH → R D} {ma : E1 (List D)} (hf : CallA K r f) (σV : L2.St) (H : Hp) (Q : VK) (hq : tE ⟨K, jt⟩ W (callE f ma) σV H Q) : tCB r (tA ⟨K, jt⟩ W ma) σV H Q := by
  obtain ⟨B, σ, h, η, rs, rh, p⟩ := hq
  exact ⟨B, σ, h, η, rs, rh, Post.sq p fun x h1 η1 H1 v _ s rh1 rv p1 => hf B jt W σV η1 h1 H1 x v Q rh1 rv p1⟩
section
variable {X : Cx} {W : WX} {id : String} {T : String} {x : Str} {e : Expr} {es : List Expr} {p pos : Pos} {ms : E1 (List D)} {r : List V → Hp → VK → Prop} {f : List D → AH → R D}
theorem e_callB (hc : CallR X (.builtin id) r) (hf : CallA X.K r f) (hm : X.mg x = none) (hv : bootBuiltins x = some (.builtin id)) (ha : PA X (e :: es) (tA ⟨X.K, jt⟩ W ms)) (hg : Gl X x := by rfl) (hn : x ≠ "__name__" := by decide) (hdb : (x == ("__debug__" : Str)) = false := by decide)
    (he : starEach (e :: es) X.env = (false, eval e X.env) :: starEach es X.env := by rfl) (hpl : (backTo pos (starEach es X.env)).any (·.1) = false := by rfl) : PE X (.Call (.Name x p) (e :: es) [] pos) (tE ⟨X.K, jt⟩ W (callE f ms)) :=
  pe_of (pe_callB hc hg hm hv ha hn hdb he hpl) (tCB_of hf)
theorem e_callTy (hc : CallR X (.type T) r) (hf : CallA X.K r f) (hm : X.mg x = none) (hv : bootBuiltins x = some (.type T)) (ha : PA X (e :: es) (tA ⟨X.K, jt⟩ W ms)) (hg : Gl X x := by rfl) (hn : x ≠ "__name__" := by decide) (hdb : (x == ("__debug__" : Str)) = false := by decide)
    (he : starEach (e :: es) X.env = (false, eval e X.env) :: starEach es X.env := by rfl) (hpl : (backTo pos (starEach es X.env)).any (·.1) = false := by rfl) : PE X (.Call (.Name x p) (e :: es) [] pos) (tE ⟨X.K, jt⟩ W (callE f ms)) :=
  pe_of (pe_callTy hc hg hm hv ha hn hdb he hpl) (tCB_of hf)
end
/-- one argument -/
def un1 (f : D → AH → R D) : List D → AH → R D
  | [x], h => f x h
  | _, _ => .stuck
theorem callA1 {K : PySem.W.Frag} {r : List V → Hp → VK → Prop} {f : D → AH → R D} (g : ∀ (B : Addr → Prop) (jt : Jt) (W : WX) (σV : L2.St) (η : Nat → Addr) (h : AH) (H : Hp) (x : D) (v : V) (Q : VK), RH ⟨K, B, jt⟩ η h H → RV ⟨K, B, jt⟩ η h.length H x v →
    Post ⟨K, B, jt⟩ W σV η h.length H (relV ⟨K, B, jt⟩) (f x h) Q → r [v] H Q) : CallA K r (un1 f) := by
  intro B jt W σV η h H xs vs Q rh rvs p
  match xs, rvs, p with
  | [], rvs, p => exact p.elim
  | [x], rvs, p =>
    unfold RVs at rvs
    obtain ⟨v, r0, rfl, r1, r2⟩ := rvs
    unfold RVs at r2
    subst r2
    exact g B jt W σV η h H x v Q rh r1 p
  | _ :: _ :: _, rvs, p => exact p.elim
def lenD (x : D) (h : AH) : R D := match x with
  | .str z => if Nat.ble z.length 16777216 then .ok (.int z.length) h else .stuck
  | .tup l => .ok (.int l.length) h
  | x => getO (lstOf h x) fun l => .ok (.int l.length) h
theorem ca_len {K : PySem.W.Frag} : CallA K (fun xs H Q => ∃ x n, xs = [x] ∧ LenV K x H n ∧ Q (.int n) H) (un1 lenD) := callA1 fun B jt W σV η h H x v Q rh rx p => by
  have gen : Post ⟨K, B, jt⟩ W σV η h.length H (relV ⟨K, B, jt⟩) (getO (lstOf h x) fun l => .ok (.int l.length) h) Q → ∃ x n, [v] = [x] ∧ LenV K x H n ∧ Q (.int n) H := fun p => by
    obtain ⟨l, el, p⟩ := post_getO p
    obtain ⟨a, vs, rfl, q, rs⟩ := rx.lstS rh el
    exact ⟨.ref a, l.length, rfl, .inl ⟨vs, q, RVs.length _ _ rs⟩, p η H _ Stp.refl rh RV.int⟩
  cases x with
  | str z =>
    replace p : Post ⟨K, B, jt⟩ W σV η h.length H (relV ⟨K, B, jt⟩) (if Nat.ble z.length 16777216 then .ok (.int z.length) h else .stuck) Q := p
    by_cases hb : Nat.ble z.length 16777216 = true
    · rw [if_pos hb] at p
      rw [rx.strS]
      exact ⟨.str z, z.length, rfl, ⟨by rw [sizeLine_eq]; exact Nat.le_of_ble_eq_true hb, rfl⟩, p η H _ Stp.refl rh RV.int⟩
    · rw [if_neg hb] at p; exact p.elim
  | tup l =>
    obtain ⟨a, vs, rfl, q, rs⟩ := rx.tupS
    exact ⟨.ref a, l.length, rfl, .inr ⟨vs, q, RVs.length _ _ rs⟩, p η H _ Stp.refl rh RV.int⟩
  | _ => exact gen p
def intC (x : D) (h : AH) : R D := match x with
  | .int i => .ok (.int i) h
  | .bl b => .ok (.int (if b then 1 else 0)) h
  | _ => .stuck
theorem ca_int {K : PySem.W.Frag} : CallA K (fun xs H Q => (∃ i, xs = [.int i] ∧ Q (.int i) H) ∨ ∃ k, xs = [.bl k] ∧ Q (.int (if k then 1 else 0)) H) (un1 intC) := callA1 fun B jt W σV η h H x v Q rh rx p => by
  cases x with
  | int i => rw [rx.intS]; exact .inl ⟨i, rfl, p η H _ Stp.refl rh RV.int⟩
  | bl b => rw [rx.blS]; exact .inr ⟨b, rfl, p η H _ Stp.refl rh RV.int⟩
  | _ => exact p.elim
def absC (x : D) (h : AH) : R D := match x with
  | .int i => .ok (.int (if i < 0 then -i else i)) h
  | _ => .stuck
theorem ca_abs {K : PySem.W.Frag} : CallA K (fun xs H Q => ∃ i, xs = [.int i] ∧ Q (.int (if i < 0 then -i else i)) H) (un1 absC) := callA1 fun B jt W σV η h H x v Q rh rx p => by
  cases x with
  | int i => rw [rx.intS]; exact ⟨i, rfl, p η H _ Stp.refl rh RV.int⟩
  | _ => exact p.elim
def tupC (x : D) (h : AH) : R D := match x with
  | .tup l => .ok (.tup l) h
  | x => getO (lstOf h x) fun l => .ok (.tup l) h
theorem ca_tup {K : PySem.W.Frag} : CallA K (rTupF K) (un1 tupC) := callA1 fun B jt W σV η h H x v Q rh rx p => by
  have gen : Post ⟨K, B, jt⟩ W σV η h.length H (relV ⟨K, B, jt⟩) (getO (lstOf h x) fun l => .ok (.tup l) h) Q → rTupF K [v] H Q := fun p => by
    obtain ⟨l, el, p⟩ := post_getO p
    obtain ⟨a, vs, rfl, q, rs⟩ := rx.lstS rh el
    exact ⟨a, vs, rfl, .inl ⟨q, post_tup rh rs p⟩⟩
  cases x with
  | tup l =>
    obtain ⟨a, vs, rfl, q, rs⟩ := rx.tupS
    exact ⟨a, vs, rfl, .inr ⟨q, p η H _ Stp.refl rh rx⟩⟩
  | _ => exact gen p
/-- list(x): a new list -/
def listN (a : E1 D) : E1 (List D) := fun σ h => (a σ h).bind fun x h1 => match x with
  | .tup l => .ok l h1
  | x => match lstOf h1 x with
    | some l => .ok l h1
    | none => .stuck
theorem e_listN {X : Cx} {W : WX} {e : Expr} {p pos : Pos} {m : E1 D} (hm : X.mg "list" = none) (he : PE X e (tE ⟨X.K, jt⟩ W m)) (hg : Gl X "list" := by rfl)
    (hs : starEach [e] X.env = (false, eval e X.env) :: starEach [] X.env := by rfl) (hpl : (backTo pos (starEach [] X.env)).any (·.1) = false := by rfl) : PE X (.Call (.Name "list" p) [e] [] pos) (tN ⟨X.K, jt⟩ W (listN m)) :=
  pe_of (pe_callTy call_list_of hg hm (by decide +kernel) (pa_cons he pa_nil hs) (by decide) (by decide) hs hpl) fun σV H Q hq => by
  obtain ⟨B, σ, h, η, rs, rh, p⟩ := hq
  refine ⟨B, σ, h, η, rs, rh, Post.seq (relB' := fun η2 h2 H2 d v => NewL ⟨X.K, B, jt⟩ H η2 h2 H2 d v) p (fun _ _ _ _ _ _ _ _ _ _ q => q) fun x h1 η1 H1 v _ s rh1 rv p1 => ?_⟩
  show ∃ p ys, [v] = [V.ref p] ∧ _
  have gen : Post ⟨X.K, B, jt⟩ W σV η1 h1.length H1 (fun η2 h2 H2 d v => NewL ⟨X.K, B, jt⟩ H η2 h2 H2 d v) (match lstOf h1 x with
    | some l => .ok l h1
    | none => .stuck) Q → ∃ p ys, [v] = [V.ref p] ∧ (SqL X.K H1 p ys ∨ SqT X.K H1 p ys) ∧ ∀ l, H1 l = none → Q (.ref l) (upd H1 l (.lst ys)) := fun p => by
    cases el : lstOf h1 x with
    | none => rw [el] at p; exact p.elim
    | some l =>
      rw [el] at p
      obtain ⟨a, vs, rfl, q, rs⟩ := RV.lstS rh1 rv el
      exact ⟨a, vs, rfl, .inl q, fun q hq => p η1 _ _ (Stp.new hq) (rh1.new hq) (NewL.mk s rh1 hq rs)⟩
  cases x with
  | tup l =>
    obtain ⟨a, vs, rfl, q, rs⟩ := RV.tupS rv
    exact ⟨a, vs, rfl, .inr q, fun q hq => p1 η1 _ _ (Stp.new hq) (rh1.new hq) (NewL.mk s rh1 hq rs)⟩
  | _ => exact gen p1
/-- all, any of a list of truths -/
def blsOf : List D → Option (List Bool)
  | [] => some []
  | .bl b :: l => (blsOf l).map (b :: ·)
  | _ :: _ => none
theorem blsOf_ok {Z : Zt} {η : Nat → Addr} {n : Nat} {H : Hp} : ∀ (l : List D) (vs : List V) (bs : List Bool), RVs Z η n H l vs → blsOf l = some bs → vs = bs.map V.bl
  | [], vs, bs, r, e => by unfold RVs at r; cases e; exact r
  | d :: l, vs, bs, r, e => by
    unfold RVs at r
    obtain ⟨v, r0, rfl, r1, r2⟩ := r
    cases d with
    | bl b =>
      simp only [blsOf] at e
      cases el : blsOf l with
      | none => rw [el] at e; cases e
      | some bs' =>
        rw [el] at e
        cases (show b :: bs' = bs from Option.some.inj e)
        rw [r1.blS, blsOf_ok l r0 bs' r2 el]
        rfl
    | _ => cases e
def allC (any : Bool) (x : D) (h : AH) : R D := getO ((lstOf h x).bind blsOf) fun bs => .ok (.bl (if any then bs.any id else bs.all id)) h
theorem ca_all {K : PySem.W.Frag} : CallA K (rAll K) (un1 (allC false)) := callA1 fun B jt W σV η h H x v Q rh rx p => by
  obtain ⟨bs, eb, p⟩ := post_getO p
  cases el : lstOf h x with
  | none => rw [el] at eb; cases eb
  | some l =>
    rw [el] at eb
    obtain ⟨a, vs, rfl, q, rs⟩ := rx.lstS rh el
    rw [blsOf_ok l vs bs rs eb] at q
    exact ⟨a, bs, rfl, q, p η H _ Stp.refl rh RV.bl⟩
theorem ca_any {K : PySem.W.Frag} : CallA K (rAny K) (un1 (allC true)) := callA1 fun B jt W σV η h H x v Q rh rx p => by
  obtain ⟨bs, eb, p⟩ := post_getO p
  cases el : lstOf h x with
  | none => rw [el] at eb; cases eb
  | some l =>
    rw [el] at eb
    obtain ⟨a, vs, rfl, q, rs⟩ := rx.lstS rh el
    rw [blsOf_ok l vs bs rs eb] at q
    exact ⟨a, bs, rfl, q, p η H _ Stp.refl rh RV.bl⟩
/-! ### isinstance of built-in types -/
inductive Ty where
  | non | bool | int | str | tuple | list | dict
  deriving DecidableEq
def Ty.nm : Ty → String
  | .non => "NoneType" | .bool => "bool" | .int => "int" | .str => "str" | .tuple => "tuple" | .list => "list" | .dict => "dict"
def Ty.sub : Ty → Ty → Bool
  | .bool, .int => true
  | a, b => decide (a = b)
theorem Ty.kit (a b : Ty) (h : b ≠ .non) : kitB a.nm b.nm = some (a.sub b) := by
  cases a <;> cases b <;> first | (exact absurd rfl h) | decide +kernel
def tyOf (h : AH) : D → Option Ty
  | .non => some .non
  | .bl _ => some .bool
  | .int _ => some .int
  | .str _ => some .str
  | .tup _ => some .tuple
  | .pr _ => some .tuple
  | .lst _ => some .list
  | .frz _ => some .list
  | .ref i => match h[i]? with
    | some (.lst _) => some .list
    | some (.dct _) => some .dict
    | _ => none
  | .cst _ => none
theorem tyOf_ok {Z : Zt} {η : Nat → Addr} {h : AH} {H : Hp} {d : D} {v : V} {t : Ty} (rh : RH Z η h H) (r : RV Z η h.length H d v) (e : tyOf h d = some t) : TyX Z.K H v (.type t.nm) := by
  cases d with
  | non => cases e; rw [r.nonS]; exact .base .non
  | bl b => cases e; rw [r.blS]; exact .base (.bl b)
  | int b => cases e; rw [r.intS]; exact .base (.int b)
  | str b => cases e; rw [r.strS]; exact .base (.str b)
  | tup l =>
    cases e
    unfold RV at r
    obtain ⟨a, vs, rfl, q, _⟩ := r
    rcases q with ⟨u, q, ⟨o, rfl, _⟩, _⟩ | ⟨o, its, n, q, c, _⟩
    · exact .fTuple q
    · exact .kTuple q c
  | pr l =>
    cases e
    unfold RV at r
    obtain ⟨a, vs, rfl, q, _⟩ := r
    rcases q with ⟨u, q, rfl, _⟩ | q
    · exact .base (.tup q)
    · exact q.elim
  | lst l =>
    cases e
    unfold RV at r
    obtain ⟨a, vs, rfl, q, _⟩ := r
    exact .base (.lst q.lst)
  | frz l =>
    cases e
    unfold RV at r
    obtain ⟨a, vs, rfl, q, _⟩ := r
    rcases q with ⟨u, q, rfl | ⟨o, rfl⟩, _⟩ | ⟨o, its, n, q, c, _⟩
    · exact .base (.lst q)
    · exact .base (.frz q)
    · exact .kList q c
  | ref i =>
    unfold RV at r
    simp only [tyOf] at e
    cases ei : h[i]? with
    | none => simp only [ei] at e; cases e
    | some o =>
      simp only [ei] at e
      obtain ⟨u, e1, r1⟩ := rh.obj i _ ei
      cases o with
      | lst l =>
        cases e
        obtain ⟨vs, rfl, _⟩ := r1
        rw [r.1]; exact .base (.lst e1)
      | dct l =>
        cases e
        obtain ⟨vs, rfl, _⟩ := r1
        rw [r.1]; exact .base (.dK e1)
      | ins C fs => cases e
  | cst c => cases e
def isiE (T : Ty) (m : E1 D) : E1 D := fun σ h => (m σ h).bind fun d h' => match tyOf h' d with
  | some t => .ok (.bl (t.sub T)) h'
  | none => .stuck
def isiE2 (Ts : List Ty) (m : E1 D) : E1 D := fun σ h => (m σ h).bind fun d h' => match tyOf h' d with
  | some t => .ok (.bl (Ts.any fun T => t.sub T)) h'
  | none => .stuck
theorem e_isi {X : Cx} {W : WX} {e : Expr} {x : Str} {p p2 pos : Pos} {m : E1 D} (T : Ty) (hT : T ≠ .non := by decide) (hm : X.mg "isinstance" = none) (hmT : X.mg x = none) (hv : bootBuiltins x = some (.type T.nm)) (he : PE X e (tE ⟨X.K, jt⟩ W m)) (hg : Gl X "isinstance" := by rfl) (hgT : Gl X x := by rfl)
    (hn : x ≠ "__name__" := by decide) (hdb : (x == ("__debug__" : Str)) = false := by decide)
    (hs : starEach [e, .Name x p2] X.env = (false, eval e X.env) :: starEach [.Name x p2] X.env := by rfl) (hs2 : starEach [.Name x p2] X.env = (false, eval (.Name x p2) X.env) :: starEach [] X.env := by rfl) (hpl : (backTo pos (starEach [.Name x p2] X.env)).any (·.1) = false := by rfl) : PE X (.Call (.Name "isinstance" p) [e, .Name x p2] [] pos) (tE ⟨X.K, jt⟩ W (isiE T m)) :=
  pe_of (pe_callB call_isi hg hm (by decide +kernel) (pa_cons he (pa_cons (pe_bltn (v := .ty T.nm) hgT hmT hv rfl hn hdb) pa_nil hs2) hs) (by decide) (by decide) hs hpl) fun σV H Q hq => by
  obtain ⟨B, σ, h, η, rs, rh, p⟩ := hq
  refine ⟨B, σ, h, η, rs, rh, Post.sq p fun x h1 η1 H1 v _ s rh1 rv p1 => ?_⟩
  cases et : tyOf h1 x with
  | none => rw [et] at p1; exact p1.elim
  | some t =>
    rw [et] at p1
    exact ⟨v, .ty T.nm, .type t.nm, .type T.nm, t.sub T, rfl, .ty _, tyOf_ok rh1 rv et, kit_ty (Ty.kit t T hT), p1 η1 H1 _ Stp.refl rh1 RV.bl⟩
/-! ### what is walked -/
/-- J yields the trees l, as long as what stood at the start stands -/
def YL (Z : Zt) (η0 : Nat → Addr) (h0 : AH) (H0 : Hp) (l : List D) (J : It) : Prop := ∀ (Z' : Zt) (η : Nat → Addr) (h : AH) (H : Hp) (i : Nat), Stp η0 h0.length H0 η h.length H → Trn Z η0 h0.length H0 Z' η h.length H → RH Z' η h H →
  (∀ d, l[i]? = some d → J.go i H ∧ ∀ x H', J.yld i H x H' → Stp η h.length H η h.length H' ∧ RH Z' η h H' ∧ RV Z' η h.length H' d x) ∧ (l.length ≤ i → J.stop i H)
def tI (J : Kj) (W : WX) (m : E1 (List D)) : TI := fun σV H Q => ∃ B σ h η, RS ⟨J.K, B, J.j⟩ η h.length H σ σV ∧ RH ⟨J.K, B, J.j⟩ η h H ∧ Post ⟨J.K, B, J.j⟩ W σV η h.length H (YL ⟨J.K, B, J.j⟩) (m σ h) Q
section
variable {X : Cx} {tg : Expr}
/-- a list, a tuple, a text, by its value -/
def iSeq (K : PySem.W.Frag) (tl : TE) : TI := fun σ H R => tl σ H fun x H1 => (∃ a, x = .ref a ∧ (∃ xs, SqL K H1 a xs) ∧ R (Itl K a) H1) ∨ (∃ a, x = .ref a ∧ (∃ xs, SqT K H1 a xs) ∧ R (Itt K a) H1) ∨ ∃ z, x = .str z ∧ R (Its z) H1
theorem pi_seq {l : Expr} {tl : TE} (hl : PE X l tl) : PI X tg l (iSeq X.K tl) := by
  refine ⟨fun pins s σ H R I h => ?_⟩
  refine thn (hl.run pins s σ H _ I h) fun v s1 ⟨x, H1, I1, r1, q1⟩ => ?_
  rcases q1 with ⟨a, e, ⟨xs, hq⟩, q⟩ | ⟨a, e, ⟨xs, hq⟩, q⟩ | ⟨z, e, q⟩
  · subst e
    cases r1
    obtain ⟨its, rv, p, hz⟩ := I1.list hq
    refine wpAny_pyIter_list p.isList ?_
    refine ⟨s1.heap.objs.size, [s1.heap.objs.size], _, _, H1, rfl, I1.kept (t' := s1.toks) fun b o e => Heap.get?_push_of_some _ e, turn_list a _, ⟨_, Heap.get?_push_size _ rfl, rfl, rfl⟩, fun b hb => ?_, q⟩
    have e : b = s1.heap.objs.size := by simpa using hb
    subst e
    exact I1.fpOk (Nat.le_refl _) (I1.hok.fresh (Nat.le_refl _))
  · subst e
    cases r1
    obtain ⟨its, rv, p, hz⟩ := I1.tuple hq
    refine wpAny_pyIter_tuple (show s1.heap.IsTuple a its.toArray from p) ?_
    refine ⟨s1.heap.objs.size, [s1.heap.objs.size], _, _, H1, rfl, I1.kept (t' := s1.toks) fun b o e => Heap.get?_push_of_some _ e, turn_tuple a _, ⟨_, Heap.get?_push_size _ rfl, rfl, rfl⟩, fun b hb => ?_, q⟩
    have e : b = s1.heap.objs.size := by simpa using hb
    subst e
    exact I1.fpOk (Nat.le_refl _) (I1.hok.fresh (Nat.le_refl _))
  · subst e
    obtain ⟨t, rfl⟩ := r1
    cases ha : z.cps.all (· < 128)
    · exact wpAny_pyIter_wide ha (pi_one (tk := s1.toks) I1 _ (turn_str _ z t "str_iterator" (.inr rfl)) ⟨_, Heap.get?_push_size _ rfl, rfl, rfl⟩ q)
    · exact wpAny_pyIter_ascii ha (pi_one (tk := s1.toks) I1 _ (turn_str _ z t "str_ascii_iterator" (.inl rfl)) ⟨_, Heap.get?_push_size _ rfl, rfl, rfl⟩ q)
end
def seqOf : D → Option (List D)
  | .tup l => some l
  | .lst l => some l
  | .frz l => some l
  | .str z => some (z.cps.toList.map fun c => .str ⟨#[c]⟩)
  | _ => none
def seqE (m : E1 D) : E1 (List D) := fun σ h => (m σ h).bind fun d h' => match seqOf d with
  | some l => .ok l h'
  | none => .stuck
section
variable {Z : Zt} {η0 : Nat → Addr} {h0 : AH} {H0 : Hp}
theorem YL.list {a : Addr} {l : List D} {vs : List V} (hq : ∀ η n H, Stp η0 h0.length H0 η n H → SqL Z.K H a vs) (r : RVs Z η0 h0.length H0 l vs) : YL Z η0 h0 H0 l (Itl Z.K a) := by
  intro Z' η h H i s t rh
  have hs := hq _ _ _ s
  refine ⟨fun d e => ?_, fun hi => ⟨vs, hs, by rw [← RVs.length _ _ r]; exact hi⟩⟩
  obtain ⟨v, ev, rv⟩ := (t.vs l vs r).get e
  refine ⟨⟨vs, v, hs, ev⟩, fun x H' y => ?_⟩
  obtain ⟨e1, y⟩ := y
  subst e1
  have := y vs hs
  rw [ev] at this
  cases this
  exact ⟨Stp.refl, rh, rv⟩
theorem YL.tup {a : Addr} {l : List D} {vs : List V} (hq : ∀ η n H, Stp η0 h0.length H0 η n H → SqT Z.K H a vs) (r : RVs Z η0 h0.length H0 l vs) : YL Z η0 h0 H0 l (Itt Z.K a) := by
  intro Z' η h H i s t rh
  have hs := hq _ _ _ s
  refine ⟨fun d e => ?_, fun hi => ⟨vs, hs, by rw [← RVs.length _ _ r]; exact hi⟩⟩
  obtain ⟨v, ev, rv⟩ := (t.vs l vs r).get e
  refine ⟨⟨vs, v, hs, ev⟩, fun x H' y => ?_⟩
  obtain ⟨e1, y⟩ := y
  subst e1
  have := y vs hs
  rw [ev] at this
  cases this
  exact ⟨Stp.refl, rh, rv⟩
end
theorem i_seq {X : Cx} {W : WX} {tg e : Expr} {m : E1 D} (he : PE X e (tE ⟨X.K, jt⟩ W m)) : PI X tg e (tI ⟨X.K, jt⟩ W (seqE m)) := ⟨fun pins s σV H R I hq => (pi_seq he).run pins s σV H R I (by
  obtain ⟨B, σ, h, η, rs, rh, p⟩ := hq
  refine ⟨B, σ, h, η, rs, rh, Post.sq p fun x h1 η1 H1 v _ s rh1 rv p1 => ?_⟩
  cases x with
  | tup l =>
    have rv' := rv
    unfold relV RV at rv'
    obtain ⟨a, vs, rfl, q, rs⟩ := rv'
    obtain ⟨a', vs', e', q', _⟩ := RV.tupS rv
    cases e'
    have hx : ∀ η n H, Stp η1 h1.length H1 η n H → SqT X.K H a vs := fun η n H s => (q.step s).sqT
    exact .inr (.inl ⟨a, rfl, ⟨vs, hx _ _ _ Stp.refl⟩, p1 η1 H1 _ Stp.refl rh1 (YL.tup (Z := ⟨X.K, B, jt⟩) hx rs)⟩)
  | lst l =>
    unfold relV RV at rv
    obtain ⟨a, vs, rfl, q, rs⟩ := rv
    have hx : ∀ η n H, Stp η1 h1.length H1 η n H → SqL X.K H a vs := fun η n H s => .inl (.inl (q.step s).lst)
    exact .inl ⟨a, rfl, ⟨vs, hx _ _ _ Stp.refl⟩, p1 η1 H1 _ Stp.refl rh1 (YL.list (Z := ⟨X.K, B, jt⟩) hx rs)⟩
  | frz l =>
    unfold relV RV at rv
    obtain ⟨a, vs, rfl, q, rs⟩ := rv
    have hx : ∀ η n H, Stp η1 h1.length H1 η n H → SqL X.K H a vs := fun η n H s => (q.step s).sqF
    exact .inl ⟨a, rfl, ⟨vs, hx _ _ _ Stp.refl⟩, p1 η1 H1 _ Stp.refl rh1 (YL.list (Z := ⟨X.K, B, jt⟩) hx rs)⟩
  | str z =>
    refine .inr (.inr ⟨z, RV.strS rv, p1 η1 H1 _ Stp.refl rh1 fun Z' η h H i s t rh => ⟨fun d e => ?_, fun hi => ?_⟩⟩)
    · rw [List.getElem?_map] at e
      cases ec : z.cps.toList[i]? with
      | none => rw [ec] at e; cases e
      | some c =>
        rw [ec] at e
        cases (show D.str ⟨#[c]⟩ = d from Option.some.inj e)
        have hc : z.cps[i]? = some c := by simpa using ec
        refine ⟨(Array.getElem?_eq_some_iff.mp hc).1, fun x H' y => ?_⟩
        obtain ⟨rfl, c', hc', rfl⟩ := y
        rw [hc] at hc'
        cases hc'
        exact ⟨Stp.refl, rh, RV.str⟩
    · show z.cps.size ≤ i
      simpa using hi
  | _ => exact p1.elim)⟩
/-- range(n), range(a, b) -/
def rangeL (lo : Int) (n : Nat) : List D := (List.range n).map fun (i : Nat) => D.int (lo + (i : Int))
theorem YL.range {Z : Zt} {η0 : Nat → Addr} {h0 : AH} {H0 : Hp} {lo : Int} {n : Nat} : YL Z η0 h0 H0 (rangeL lo n) (Itr lo n) := by
  intro Z' η h H i s t rh
  refine ⟨fun d e => ?_, fun hi => show n ≤ i by simpa [rangeL] using hi⟩
  unfold rangeL at e
  rw [List.getElem?_map] at e
  by_cases hi : i < n
  · rw [List.getElem?_range hi] at e
    cases e
    refine ⟨hi, fun x H' y => ?_⟩
    obtain ⟨rfl, rfl⟩ := y
    exact ⟨Stp.refl, rh, RV.int⟩
  · rw [List.getElem?_eq_none (by simpa using hi)] at e
    cases e
def rng1E (m : E1 D) : E1 (List D) := fun σ h => (m σ h).bind fun d h' => match d with
  | .int j => if -4611686018427387904 ≤ j ∧ j < 4611686018427387904 then .ok (rangeL 0 j.toNat) h' else .stuck
  | _ => .stuck
def rng2E (m m2 : E1 D) : E1 (List D) := fun σ h => (m σ h).bind fun d h' => (m2 σ h').bind fun d2 h2 => match d, d2 with
  | .int i, .int j => if -4611686018427387904 ≤ i ∧ i < 4611686018427387904 ∧ -4611686018427387904 ≤ j ∧ j < 4611686018427387904 then .ok (rangeL i (j - i).toNat) h2 else .stuck
  | _, _ => .stuck
theorem i_range1 {X : Cx} {W : WX} {tg a : Expr} {p pos : Pos} {m : E1 D} (hm : X.mg "range" = none) (ha : PE X a (tE ⟨X.K, jt⟩ W m)) (hg : Gl X "range" := by rfl) (hs : starEach [a] X.env = [(false, eval a X.env)] := by rfl) : PI X tg (.Call (.Name "range" p) [a] [] pos) (tI ⟨X.K, jt⟩ W (rng1E m)) := ⟨fun pins s σV H R I hq => (pi_range1 hg hm (pa_cons ha pa_nil hs) hs).run pins s σV H R I (by
  obtain ⟨B, σ, h, η, rs, rh, p⟩ := hq
  refine ⟨B, σ, h, η, rs, rh, Post.sq p fun d h1 η1 H1 v em s rh1 rv p1 => ?_⟩
  cases d with
  | int j =>
    replace p1 : Post ⟨X.K, B, jt⟩ W σV η1 h1.length H1 (YL ⟨X.K, B, jt⟩) (if -4611686018427387904 ≤ j ∧ j < 4611686018427387904 then .ok (rangeL 0 j.toNat) h1 else .stuck) R := p1
    by_cases hc : -4611686018427387904 ≤ j ∧ j < 4611686018427387904
    · rw [if_pos hc] at p1
      exact ⟨j, by rw [RV.intS rv], by have := hc.1; show -(2 ^ 62) ≤ j; omega, by have := hc.2; show j < 2 ^ 62; omega, p1 η1 H1 _ Stp.refl rh1 YL.range⟩
    · rw [if_neg hc] at p1; exact p1.elim
  | _ => exact p1.elim)⟩
theorem i_range2 {X : Cx} {W : WX} {tg a b : Expr} {p pos : Pos} {m m2 : E1 D} (hm : X.mg "range" = none) (ha : PE X a (tE ⟨X.K, jt⟩ W m)) (hb : PE X b (tE ⟨X.K, jt⟩ W m2)) (hg : Gl X "range" := by rfl) (hs : starEach [a, b] X.env = [(false, eval a X.env), (false, eval b X.env)] := by rfl) (hs2 : starEach [b] X.env = [(false, eval b X.env)] := by rfl) : PI X tg (.Call (.Name "range" p) [a, b] [] pos) (tI ⟨X.K, jt⟩ W (rng2E m m2)) := ⟨fun pins s σV H R I hq => (pi_range2 hg hm (pa_cons ha (pa_cons hb pa_nil hs2) (by rw [hs, hs2])) hs hs2).run pins s σV H R I (by
  obtain ⟨B, σ, h, η, rs, rh, p⟩ := hq
  refine ⟨B, σ, h, η, rs, rh, Post.sq p fun d h1 η1 H1 v em s rh1 rv p1 => ?_⟩
  refine ⟨B, σ, h1, η1, rs.step s, rh1, Post.sq p1 fun d2 h2 η2 H2 v2 em2 s2 rh2 rv2 p2 => ?_⟩
  cases d with
  | int i =>
    cases d2 with
    | int j =>
      replace p2 : Post ⟨X.K, B, jt⟩ W σV η2 h2.length H2 (YL ⟨X.K, B, jt⟩) (if -4611686018427387904 ≤ i ∧ i < 4611686018427387904 ∧ -4611686018427387904 ≤ j ∧ j < 4611686018427387904 then .ok (rangeL i (j - i).toNat) h2 else .stuck) R := p2
      by_cases hc : -4611686018427387904 ≤ i ∧ i < 4611686018427387904 ∧ -4611686018427387904 ≤ j ∧ j < 4611686018427387904
      · rw [if_pos hc] at p2
        obtain ⟨c1, c2, c3, c4⟩ := hc
        exact ⟨i, j, by rw [RV.intS rv, RV.intS rv2], ⟨by show -(2 ^ 62) ≤ i; omega, by show i < 2 ^ 62; omega, by show -(2 ^ 62) ≤ j; omega, by show j < 2 ^ 62; omega⟩, p2 η2 H2 _ Stp.refl rh2 YL.range⟩
      · rw [if_neg hc] at p2; exact p2.elim
    | _ => exact p2.elim
  | _ => exact p2.elim)⟩
/-- enumerate(list) -/
def enumL : Nat → List D → List D
  | _, [] => []
  | i, d :: l => .pr [.int i, d] :: enumL (i + 1) l
theorem enumL_get : ∀ (l : List D) (k i : Nat) (d : D), (enumL k l)[i]? = some d → ∃ x, l[i]? = some x ∧ d = .pr [.int ((k + i : Nat) : Int), x]
  | [], k, i, d, e => by simp [enumL] at e
  | x :: l, k, 0, d, e => by
    simp [enumL] at e
    exact ⟨x, rfl, by rw [← e]; rfl⟩
  | x :: l, k, i + 1, d, e => by
    simp [enumL] at e
    obtain ⟨y, e1, e2⟩ := enumL_get l (k + 1) i d e
    refine ⟨y, by simpa using e1, ?_⟩
    rw [e2]
    have : k + 1 + i = k + (i + 1) := by omega
    rw [this]
theorem enumL_length : ∀ (l : List D) (k : Nat), (enumL k l).length = l.length
  | [], _ => rfl
  | _ :: l, k => by rw [enumL, List.length_cons, List.length_cons, enumL_length l]
def enumE (m : E1 D) : E1 (List D) := fun σ h => (m σ h).bind fun d h' => match d with
  | .lst l => .ok (enumL 0 l) h'
  | .frz l => .ok (enumL 0 l) h'
  | _ => .stuck
theorem i_enum {X : Cx} {W : WX} {e : Expr} {p pos tpos : Pos} {elts : List Expr} {kk : Nat} {m : E1 D} (hm : X.mg "enumerate" = none) (he : PE X e (tE ⟨X.K, jt⟩ W m)) (hg : Gl X "enumerate" := by rfl) (hs : starEach [e] X.env = [(false, eval e X.env)] := by rfl) : PI X (.Tuple elts kk tpos) (.Call (.Name "enumerate" p) [e] [] pos) (tI ⟨X.K, jt⟩ W (enumE m)) := ⟨fun pins s σV H R I hq => (pi_enum hg hm (pa_cons he pa_nil hs) hs).run pins s σV H R I (by
  obtain ⟨B, σ, h, η, rs, rh, p⟩ := hq
  refine ⟨B, σ, h, η, rs, rh, Post.sq p fun d h1 η1 H1 v em s rh1 rv p1 => ?_⟩
  have gen : ∀ a vs l, v = .ref a → (∀ η n H, Stp η1 h1.length H1 η n H → SqL X.K H a vs) → RVs ⟨X.K, B, jt⟩ η1 h1.length H1 l vs → Post ⟨X.K, B, jt⟩ W σV η1 h1.length H1 (YL ⟨X.K, B, jt⟩) (.ok (enumL 0 l) h1) R → ∃ a xs, [v] = [V.ref a] ∧ SqL X.K H1 a xs ∧ R (Ite X.K a) H1 := fun a vs l ev hx rs p1 => by
    refine ⟨a, vs, by rw [ev], hx _ _ _ Stp.refl, p1 η1 H1 _ Stp.refl rh1 fun Z' η h H i s t rh => ?_⟩
    have hs := hx _ _ _ s
    refine ⟨fun d e => ?_, fun hi => ⟨vs, hs, by rw [← RVs.length _ _ rs, ← enumL_length l 0]; exact hi⟩⟩
    obtain ⟨x, ex, rfl⟩ := enumL_get l 0 i d e
    obtain ⟨w, ew, rw'⟩ := (t.vs l vs rs).get ex
    refine ⟨⟨vs, w, hs, ew⟩, fun y H' hy => ?_⟩
    obtain ⟨T, x', rfl, nT, rfl, hx'⟩ := hy
    have := hx' vs hs
    rw [ew] at this
    cases this
    refine ⟨Stp.new nT, rh.new nT, ?_⟩
    unfold RV
    refine ⟨T, _, rfl, .inl ⟨_, upd_same, rfl, rh.none_ne nT, rh.nb nT⟩, RVs.cons ?_ (RVs.cons (RV.step (Stp.new nT) _ _ rw') RVs.nil)⟩
    rw [Nat.zero_add]
    exact RV.int
  cases d with
  | lst l =>
    unfold relV RV at rv
    obtain ⟨a, vs, rfl, q, rs⟩ := rv
    exact gen a vs l rfl (fun η n H s => .inl (.inl (q.step s).lst)) rs p1
  | frz l =>
    unfold relV RV at rv
    obtain ⟨a, vs, rfl, q, rs⟩ := rv
    exact gen a vs l rfl (fun η n H s => (q.step s).sqF) rs p1
  | _ => exact p1.elim)⟩
/-! ### targets -/
abbrev G1 := D → SL → Option SL
theorem wipe_set {σ : L2.St} {i : Nat} {x : Option V} : ∀ {own : List Nat}, i ∈ own → wipe (σ.set i x) own = wipe σ own
  | [], h => nomatch h
  | v :: vs, h => by
    unfold wipe
    by_cases e : i ∈ vs
    · rw [wipe_set e]
    · have ev : i = v := by
        rcases List.mem_cons.mp h with h | h
        · exact h
        · exact absurd h e
      subst ev
      have : ∀ (vs : List Nat), i ∉ vs → wipe (σ.set i x) vs = (wipe σ vs).set i x := by
        intro vs
        induction vs with
        | nil => intro _; rfl
        | cons w ws ih =>
          intro hn
          unfold wipe
          rw [ih fun z => hn (List.mem_cons_of_mem _ z), List.set_comm _ _ fun z => hn (by rw [z]; exact List.mem_cons_self)]
      rw [this vs e, List.set_set]
/-- own: the slots that it writes -/
def tG (J : Kj) (own : List Nat) (g : G1) : TG := fun v σV H Q => ∃ B σ h η d, RS ⟨J.K, B, J.j⟩ η h.length H σ σV ∧ RH ⟨J.K, B, J.j⟩ η h H ∧ RV ⟨J.K, B, J.j⟩ η h.length H d v ∧ match g d σ with
  | some σ' => ∀ σV', RS ⟨J.K, B, J.j⟩ η h.length H σ' σV' → wipe σV' own = wipe σV own → Q σV' H
  | none => False
def gN (i : Nat) : G1 := fun d σ => some (σ.set i (some d))
def gL : List G1 → List D → SL → Option SL
  | [], [], σ => some σ
  | g :: gs, d :: l, σ => (g d σ).bind fun σ' => gL gs l σ'
  | _, _, _ => none
def gTu (gs : List G1) : G1 := fun d σ => match d with
  | .tup l => gL gs l σ
  | .pr l => gL gs l σ
  | _ => none
def tGs (J : Kj) (own : List Nat) (gs : List G1) : TGs := fun vs σV H Q => ∃ B σ h η l, RS ⟨J.K, B, J.j⟩ η h.length H σ σV ∧ RH ⟨J.K, B, J.j⟩ η h H ∧ RVs ⟨J.K, B, J.j⟩ η h.length H l vs ∧ match gL gs l σ with
  | some σ' => ∀ σV', RS ⟨J.K, B, J.j⟩ η h.length H σ' σV' → wipe σV' own = wipe σV own → Q σV' H
  | none => False
section
variable {X : Cx} {pos : Pos} {own : List Nat}
theorem g_name {i : Nat} {x : Str} (hN : X.N.Nodup) (ho : i ∈ own := by decide) (hi : X.N[i]? = some x := by rfl) (hx : Loc X.env.scope x := by first | exact Or.inl rfl | exact Or.inr rfl) (hf : X.fn x = true ∨ X.env.scope.names.lookup x = some .local := by first | exact .inl rfl | exact .inr rfl | assumption) : PG X (.Name x pos) (tG ⟨X.K, jt⟩ own (gN i)) :=
  ⟨fun pins s σ H v u Q I r hq => (pg_name hN hi hx hf).run pins s σ H v u Q I r (by
    obtain ⟨B, σ, h, η, d, rs, rh, rv, p⟩ := hq
    exact p _ (rs.set rv) (wipe_set ho))⟩
theorem gs_nil : PGs X [] (tGs ⟨X.K, jt⟩ own []) := ⟨fun pins s σ H v u Q I r hq => pgs_nil.run pins s σ H v u Q I r (by
  obtain ⟨B, σ, h, η, l, rs, rh, rv, p⟩ := hq
  cases l with
  | nil => unfold RVs at rv; exact ⟨rv, p _ rs rfl⟩
  | cons d l => exact p.elim)⟩
theorem gs_cons {e : Expr} {es : List Expr} {g : G1} {gs : List G1} (h1 : PG X e (tG ⟨X.K, jt⟩ own g)) (h2 : PGs X es (tGs ⟨X.K, jt⟩ own gs))
    (hs : (assignEach (e :: es) X.env).map (·.2) = assign e X.env :: (assignEach es X.env).map (·.2) := by rfl) : PGs X (e :: es) (tGs ⟨X.K, jt⟩ own (g :: gs)) := ⟨fun pins s σ H v u Q I r hq => (pgs_cons h1 h2 hs).run pins s σ H v u Q I r (by
  obtain ⟨B, σ, h, η, l, rs, rh, rv, p⟩ := hq
  cases l with
  | nil => exact p.elim
  | cons d l =>
    unfold RVs at rv
    obtain ⟨v, r0, rfl, r1, r2⟩ := rv
    refine ⟨v, r0, rfl, B, σ, h, η, d, rs, rh, r1, ?_⟩
    simp only [gL] at p
    cases eg : g d σ with
    | none => rw [eg] at p; exact p.elim
    | some σ1 =>
      rw [eg] at p
      exact fun σV1 rs1 w1 => ⟨B, σ1, h, η, l, rs1, rh, r2, by
        simp only [Option.bind] at p
        cases eg2 : gL gs l σ1 with
        | none => rw [eg2] at p; exact p.elim
        | some σ2 =>
          rw [eg2] at p
          exact fun σV2 rs2 w2 => p σV2 rs2 (w2.trans w1)⟩)⟩
theorem g_tup {es : List Expr} {k : Nat} {gs : List G1} {n : Nat} (hc : X.calm = true := by rfl) (h : PGs X es (tGs ⟨X.K, jt⟩ own gs)) (hl : gs.length = n)
    (hn : (assignEach es X.env).length = n := by rfl) (hst : (assignEach es X.env).findIdx? (·.1) = none := by rfl) : PG X (.Tuple es k pos) (tG ⟨X.K, jt⟩ own (gTu gs)) := ⟨fun pins s σV H v u Q I r hq => (pg_tup hc h hn hst).run pins s σV H v u Q I r (by
  obtain ⟨B, σ, h, η, d, rs, rh, rv, p⟩ := hq
  have len : ∀ (gs : List G1) (l : List D) (σ σ' : SL), gL gs l σ = some σ' → l.length = gs.length := by
    intro gs
    induction gs with
    | nil => intro l σ σ' e; cases l with
      | nil => rfl
      | cons _ _ => cases e
    | cons g gs ih => intro l σ σ' e; cases l with
      | nil => cases e
      | cons d l =>
        simp only [gL] at e
        cases eg : g d σ with
        | none => rw [eg] at e; cases e
        | some σ1 =>
          rw [eg] at e
          rw [List.length_cons, List.length_cons, ih l σ1 σ' e]
  have go : ∀ a vs l, SqT X.K H a vs → RVs ⟨X.K, B, jt⟩ η h.length H l vs → (match gL gs l σ with
      | some σ' => ∀ σV', RS ⟨X.K, B, jt⟩ η h.length H σ' σV' → wipe σV' own = wipe _ own → Q σV' H
      | none => False) → gTup X.K n (tGs ⟨X.K, jt⟩ own gs) (.ref a) σV H Q := fun a vs l q rvs p => by
    refine ⟨a, vs, rfl, q, ?_, B, σ, h, η, l, rs, rh, rvs, p⟩
    rw [← RVs.length _ _ rvs, ← hl]
    cases eg : gL gs l σ with
    | none => rw [eg] at p; exact p.elim
    | some σ' => exact len gs l σ σ' eg
  cases d with
  | tup l =>
    obtain ⟨a, vs, rfl, q, rvs⟩ := rv.tupS
    exact go a vs l q rvs p
  | pr l =>
    unfold RV at rv
    obtain ⟨a, vs, rfl, q, rvs⟩ := rv
    rcases q with ⟨u, q, rfl, _⟩ | q
    · exact go a vs l (.inl (.inl q)) rvs p
    · exact q.elim
  | _ => exact p.elim)⟩
end
/-- target = value, whatever the target -/
def asgS (g : G1) (m : E1 D) : S1 := fun σ h => (m σ h).toS σ fun d h1 => match g d σ with
  | some σ' => .nx σ' h1
  | none => .stuck
theorem s_asg {X : Cx} {W : WX} {tg e : Expr} {own : List Nat} {g : G1} {m : E1 D} {pos : Pos} (he : PE X e (tE ⟨X.K, jt⟩ W m)) (hg : PG X tg (tG ⟨X.K, jt⟩ own g)) (hs : swapsWithSole [tg] e pos.line X.env = pure false := by rfl) (hw : swappedStores [tg] e X.env = pure none := by rfl)
    (h1 : (assignEach [tg] X.env).map (·.2) = [assign tg X.env] := by rfl) : PS X (.Assign [tg] e pos) (tS ⟨X.K, jt⟩ W (asgS g m)) := ps_of (ps_asg he hg hs hw h1) fun Dn σV H hq => by
  obtain ⟨B, σ, h, η, rs, rh, p⟩ := hq
  refine ⟨B, σ, h, η, rs, rh, postS_of rs p fun d h1 η1 H1 v _ s rh1 rv p1 => ?_⟩
  refine ⟨B, σ, h1, η1, d, rs.step s, rh1, rv, ?_⟩
  cases eg : g d σ with
  | none => rw [eg] at p1; exact p1.elim
  | some σ' => rw [eg] at p1; exact fun σV' rs' _ => p1 η1 H1 σV' Stp.refl rh1 rs'
/-! ### for -/
def forL (g : G1) (body : S1) : List D → S1
  | [] => fun σ h => .nx σ h
  | d :: l => fun σ h => match g d σ with
    | some σ1 => match body σ1 h with
      | .nx σ2 h2 => forL g body l σ2 h2
      | .ct σ2 h2 => forL g body l σ2 h2
      | .bk σ2 h2 => .nx σ2 h2
      | r => r
    | none => .stuck
def forS (src : E1 (List D)) (g : G1) (body : S1) : S1 := fun σ h => (src σ h).toS σ fun l h1 => forL g body l σ h1
theorem s_for {X : Cx} {W : WX} {tg iter : Expr} {body : List Stmt} {own : List Nat} {src : E1 (List D)} {g : G1} {mb : S1} {pos : Pos} (hp : PassesOwn (model X.prog X.w) X.A X.env X.xe) (hi : PI X tg iter (tI ⟨X.K, jt⟩ W src)) (hg : PG X tg (tG ⟨X.K, jt⟩ own g)) (hb : PSs X body (tS ⟨X.K, jt⟩ W mb)) (hc : X.calm = true := by rfl)
    (hs : ∀ x, foldedSetIterable iter X.env x = pure x := by intro _; rfl) : PS X (.For tg iter body [] pos) (tS ⟨X.K, jt⟩ W (forS src g mb)) := ps_of (ps_for hp hc hi hg hb hs) fun Dn σV H hq => by
  obtain ⟨B, σ, h, η, rs, rh, p⟩ := hq
  refine ⟨B, σ, h, η, rs, rh, postS_of rs p fun l h0 η0 H0 J _ s0 rh0 yl p0 => ?_⟩
  refine ⟨fun i m σV H => m = l.length - i ∧ i ≤ l.length ∧ ∃ σ h η, Stp η0 h0.length H0 η h.length H ∧ RS ⟨X.K, B, jt⟩ η h.length H σ σV ∧ RH ⟨X.K, B, jt⟩ η h H ∧ PostS ⟨X.K, B, jt⟩ W η h.length H (forL g mb (l.drop i) σ h) Dn,
    ⟨l.length, by simp, Nat.zero_le _, σ, h0, η0, Stp.refl, rs.step s0, rh0, p0⟩, ?_⟩
  rintro i m σV H ⟨rfl, hi, σ, h, η, s, rs, rh, p⟩
  obtain ⟨y1, y2⟩ := yl ⟨X.K, B, jt⟩ η h H i s s.trn rh
  by_cases hlt : i < l.length
  · have ed : l[i]? = some l[i] := List.getElem?_eq_getElem hlt
    obtain ⟨go, yd⟩ := y1 _ ed
    have edr : l.drop i = l[i] :: l.drop (i + 1) := List.drop_eq_getElem_cons hlt
    rw [edr] at p
    refine .inr ⟨go, fun σV' H' => ∃ σ h η, Stp η0 h0.length H0 η h.length H' ∧ RS ⟨X.K, B, jt⟩ η h.length H' σ σV' ∧ RH ⟨X.K, B, jt⟩ η h H' ∧ PostS ⟨X.K, B, jt⟩ W η h.length H' (forL g mb (l.drop (i + 1)) σ h) Dn,
      fun σV' H' hn => ⟨l.length - (i + 1), by omega, rfl, hlt, hn⟩, fun x H' hy => ?_⟩
    obtain ⟨sy, rhy, rvy⟩ := yd x H' hy
    refine ⟨B, σ, h, η, l[i], rs.step sy, rhy, rvy, ?_⟩
    simp only [forL] at p
    cases eg : g l[i] σ with
    | none => rw [eg] at p; exact p.elim
    | some σ1 =>
      rw [eg] at p
      intro σV1 rs1 _
      refine ⟨B, σ1, h, η, rs1, rhy, ?_⟩
      have p1 := PostS.from sy p
      simp only at p1
      cases eb : mb σ1 h with
      | nx σ2 h2 => rw [eb] at p1; exact fun η2 H2 σV2 s2 rh2 rs2 => ⟨σ2, h2, η2, (s.trans sy).trans s2, rs2, rh2, PostS.from s2 p1⟩
      | ct σ2 h2 => rw [eb] at p1; exact fun η2 H2 σV2 s2 rh2 rs2 => ⟨σ2, h2, η2, (s.trans sy).trans s2, rs2, rh2, PostS.from s2 p1⟩
      | bk σ2 h2 => rw [eb] at p1; exact p1
      | rt d h2 => rw [eb] at p1; exact p1
      | exc x s2 h2 => rw [eb] at p1; exact p1
      | stuck => rw [eb] at p1; exact p1.elim
  · have e : i = l.length := by omega
    subst e
    rw [List.drop_length] at p
    exact .inl ⟨y2 (Nat.le_refl _), p η H σV Stp.refl rh rs⟩
/-! ### while -/
def whileS (c : E1 Bool) (body : S1) : Nat → S1
  | 0 => fun _ _ => .stuck
  | k + 1 => fun σ h => (c σ h).toS σ fun b h1 => if b then (match body σ h1 with
      | .nx σ2 h2 => whileS c body k σ2 h2
      | .ct σ2 h2 => whileS c body k σ2 h2
      | .bk σ2 h2 => .nx σ2 h2
      | r => r) else .nx σ h1
theorem s_while {X : Cx} {W : WX} {c : Expr} {body : List Stmt} {mc : E1 Bool} {mb : S1} {pos : Pos} (k : Nat) (hp : PassesOwn (model X.prog X.w) X.A X.env X.xe) (hc : PT X c (tT ⟨X.K, jt⟩ W mc)) (hb : PSs X body (tS ⟨X.K, jt⟩ W mb)) : PS X (.While c body [] pos) (tS ⟨X.K, jt⟩ W (whileS mc mb k)) := ps_of (ps_while hp hc hb) fun Dn σV H hq => by
  obtain ⟨B, σ, h, η, rs, rh, p⟩ := hq
  refine ⟨fun m σV H => ∃ σ h η, RS ⟨X.K, B, jt⟩ η h.length H σ σV ∧ RH ⟨X.K, B, jt⟩ η h H ∧ PostS ⟨X.K, B, jt⟩ W η h.length H (whileS mc mb m σ h) Dn, ⟨k, σ, h, η, rs, rh, p⟩, ?_⟩
  rintro m σV H ⟨σ, h, η, rs, rh, p⟩
  cases m with
  | zero => exact p.elim
  | succ m =>
    refine ⟨B, σ, h, η, rs, rh, postS_of rs p fun b h1 η1 H1 v _ s rh1 rv p1 => ?_⟩
    cases (show b = v from rv)
    cases b with
    | false => exact p1 η1 H1 σV Stp.refl rh1 (rs.step s)
    | true =>
      rw [if_pos rfl]
      refine ⟨fun σV' H' => ∃ σ h η, RS ⟨X.K, B, jt⟩ η h.length H' σ σV' ∧ RH ⟨X.K, B, jt⟩ η h H' ∧ PostS ⟨X.K, B, jt⟩ W η h.length H' (whileS mc mb m σ h) Dn, fun σV' H' hn => ⟨m, Nat.lt_succ_self _, hn⟩, B, σ, h1, η1, rs.step s, rh1, ?_⟩
      simp only [if_true] at p1
      cases eb : mb σ h1 with
      | nx σ2 h2 => rw [eb] at p1; exact fun η2 H2 σV2 s2 rh2 rs2 => ⟨σ2, h2, η2, rs2, rh2, PostS.from s2 p1⟩
      | ct σ2 h2 => rw [eb] at p1; exact fun η2 H2 σV2 s2 rh2 rs2 => ⟨σ2, h2, η2, rs2, rh2, PostS.from s2 p1⟩
      | bk σ2 h2 => rw [eb] at p1; exact p1
      | rt d h2 => rw [eb] at p1; exact p1
      | exc x s2 h2 => rw [eb] at p1; exact p1
      | stuck => rw [eb] at p1; exact p1.elim
end RF

set_option maxRecDepth 100000
set_option maxHeartbeats 1000000
/-! RFe: list comprehensions, defs and their calls. -/
namespace RF
open PySem PySem.Spec PyProof.Rows L2
variable {jt : Jt}
def R.nox {α : Type} (r : R α) : R α := match r with
  | .exc _ _ => .stuck
  | r => r
abbrev W0 : WX := fun _ _ _ _ => False
def wipeD (σ : SL) : List Nat → SL
  | [] => σ
  | v :: vs => (wipeD σ vs).set v none
theorem RS.wipe {Z : Zt} {η : Nat → Addr} {n : Nat} {H : Hp} {σ : SL} {σV : L2.St} (r : RS Z η n H σ σV) : ∀ own : List Nat, RS Z η n H (wipeD σ own) (L2.wipe σV own)
  | [] => r
  | v :: vs => (RS.wipe r vs).unset
theorem wipe_idem {σ : L2.St} : ∀ (own : List Nat), wipe (wipe σ own) own = wipe σ own := fun own => by
  have h : ∀ (l own : List Nat) (σ : L2.St), (∀ v ∈ l, v ∈ own) → wipe (wipe σ l) own = wipe σ own := by
    intro l
    induction l with
    | nil => intro own σ _; rfl
    | cons v vs ih =>
      intro own σ hs
      show wipe ((wipe σ vs).set v none) own = _
      rw [wipe_set (hs v List.mem_cons_self), ih own σ fun w hw => hs w (List.mem_cons_of_mem _ hw)]
  exact h own own σ fun _ z => z
def compL (g : G1) (tt : E1 Bool) (elt : E1 D) : List D → SL → AH → R (List D)
  | [], _, h => .ok [] h
  | d :: l, σ, h => match g d σ with
    | some σ1 => (tt σ1 h).nox.bind fun b h1 => if b then (elt σ1 h1).nox.bind fun y h2 => (compL g tt elt l σ h2).bind fun ys h3 => .ok (y :: ys) h3 else compL g tt elt l σ h1
    | none => .stuck
def compE (own : List Nat) (src : E1 (List D)) (g : G1) (tt : E1 Bool) (elt : E1 D) : E1 (List D) := fun σ h => (src σ h).bind fun l h1 => if Nat.ble l.length 16777216 then compL g tt elt l (wipeD σ own) h1 else .stuck
def yesE : E1 Bool := fun _ h => .ok true h
theorem Stp.updNew {η0 η : Nat → Addr} {n0 n : Nat} {H0 H : Hp} {p : Addr} {o : HO} (s : Stp η0 n0 H0 η n H) (h0 : H0 p = none) : Stp η0 n0 H0 η n (upd H p o) where
  le := s.le
  agree := s.agree
  keep := fun a u e ha => by rw [upd_ne (ne_of_none e h0)]; exact s.keep a u e ha
  there := fun a u e => by
    obtain ⟨u', e'⟩ := s.there a u e
    exact ⟨u', by rw [upd_ne (ne_of_none e h0)]; exact e'⟩
  fresh := s.fresh
theorem bind_ret {α : Type} (r : R α) : (r.bind fun a h => .ok a h) = r := by cases r <;> rfl
/-- no exception's end serves any wish -/
theorem Post.nox {α β γ δ : Type} {Z Z' : Zt} {W : WX} {σV σV' : L2.St} {η η' : Nat → Addr} {n n' : Nat} {H H' : Hp} {relA : (Nat → Addr) → AH → Hp → α → γ → Prop} {relB : (Nat → Addr) → AH → Hp → β → δ → Prop} {r : R α} {f : α → AH → R β} {Q : δ → Hp → Prop} {G : γ → Hp → Prop}
    (p : Post Z W σV η n H relB (r.nox.bind f) Q) (k : ∀ a h1, r = .ok a h1 → Post Z W σV η n H relB (f a h1) Q → ∀ η1 H1 v, Stp η' n' H' η1 h1.length H1 → RH Z' η1 h1 H1 → relA η1 h1 H1 a v → G v H1) : Post Z' W0 σV' η' n' H' relA r G := by
  cases r with
  | ok a h1 => exact k a h1 rfl p
  | exc x h1 => exact p.elim
  | stuck => exact p.elim
section
variable {X : Cx} {W : WX}
theorem tLc_of {own : List Nat} {src : E1 (List D)} {g : G1} {tt : E1 Bool} {elt : E1 D} (σV : L2.St) (H : Hp) (Q : VK) (hq : tN ⟨X.K, jt⟩ W (compE own src g tt elt) σV H Q) : tLc (tI ⟨X.K, jt⟩ W src) (tG ⟨X.K, jt⟩ own g) (tT ⟨X.K, jt⟩ W0 tt) (tE ⟨X.K, jt⟩ W0 elt) own σV H Q := by
  obtain ⟨B, σ, h, η, rs, rh, p⟩ := hq
  refine ⟨B, σ, h, η, rs, rh, ?_⟩
  unfold compE at p
  cases es : src σ h with
  | stuck => rw [es] at p; exact p.elim
  | exc x h1 => rw [es] at p; exact p
  | ok l h0 =>
    rw [es] at p
    replace p : Post ⟨X.K, B, jt⟩ W σV η h.length H (NewL ⟨X.K, B, jt⟩ H) (if Nat.ble l.length 16777216 then compL g tt elt l (wipeD σ own) h0 else .stuck) Q := p
    by_cases hb : Nat.ble l.length 16777216 = true
    · rw [if_pos hb] at p
      have hz : l.length ≤ 16777216 := Nat.le_of_ble_eq_true hb
      intro η0 H0 J s0 rh0 yl D hD
      have hDp : H D = none := s0.none_back hD
      have rsw : RS ((⟨X.K, B, jt⟩ : Zt).bar D) η0 h0.length H0 (wipeD σ own) (L2.wipe σV own) := (Trn.bar hD).s ((rs.step s0).wipe own)
      refine ⟨fun i m H' => m = l.length - i ∧ i ≤ l.length ∧ ∃ h η' acc vs, Stp η0 h0.length H0 η' h.length H' ∧ RH ((⟨X.K, B, jt⟩ : Zt).bar D) η' h H' ∧ (∀ j, j < h.length → η' j ≠ D) ∧ H' D = some (.lst vs) ∧ RVs ((⟨X.K, B, jt⟩ : Zt).bar D) η' h.length H' acc vs ∧ acc.length ≤ i ∧
        Post ⟨X.K, B, jt⟩ W σV η0 h0.length H0 (NewL ⟨X.K, B, jt⟩ H) ((compL g tt elt (l.drop i) (wipeD σ own) h).bind fun ys h' => .ok (acc ++ ys) h') Q, ⟨l.length, by simp, Nat.zero_le _, h0, η0, [], [], Stp.new hD, rh0.newB hD, rh0.none_ne hD, upd_same, RVs.nil, Nat.le_refl _, ?_⟩, ?_⟩
      · have e : ((compL g tt elt (l.drop 0) (wipeD σ own) h0).bind fun ys h' => R.ok ([] ++ ys) h') = compL g tt elt l (wipeD σ own) h0 := bind_ret _
        rw [e]
        exact Post.from s0 (fun _ _ _ _ _ _ q => q) p
      · rintro i m H' ⟨rfl, hi, h, η', acc, vs, s, rhb, hn, hDv, ra, hacc, pp⟩
        have tz : Trn ⟨X.K, B, jt⟩ η0 h0.length H0 ((⟨X.K, B, jt⟩ : Zt).bar D) η' h.length H' := (Trn.bar hD).comp s.trn
        obtain ⟨y1, y2⟩ := yl ((⟨X.K, B, jt⟩ : Zt).bar D) η' h H' i s tz rhb
        by_cases hlt : i < l.length
        · have ed : l[i]? = some l[i] := List.getElem?_eq_getElem hlt
          obtain ⟨go, yd⟩ := y1 _ ed
          have edr : l.drop i = l[i] :: l.drop (i + 1) := List.drop_eq_getElem_cons hlt
          rw [edr] at pp
          simp only [compL] at pp
          refine .inr ⟨go, fun H' => ∃ h η' acc vs, Stp η0 h0.length H0 η' h.length H' ∧ RH ((⟨X.K, B, jt⟩ : Zt).bar D) η' h H' ∧ (∀ j, j < h.length → η' j ≠ D) ∧ H' D = some (.lst vs) ∧ RVs ((⟨X.K, B, jt⟩ : Zt).bar D) η' h.length H' acc vs ∧ acc.length ≤ i + 1 ∧
            Post ⟨X.K, B, jt⟩ W σV η0 h0.length H0 (NewL ⟨X.K, B, jt⟩ H) ((compL g tt elt (l.drop (i + 1)) (wipeD σ own) h).bind fun ys h' => .ok (acc ++ ys) h') Q,
            fun H'' hx => ⟨l.length - (i + 1), by omega, rfl, hlt, hx⟩, fun x H2 hy => ?_⟩
          obtain ⟨sy, rhy, rvy⟩ := yd x H2 hy
          have rs2 := (rsw.step s).step sy
          refine ⟨((⟨X.K, B, jt⟩ : Zt).bar D).B, wipeD σ own, h, η', l[i], rs2, rhy, rvy, ?_⟩
          cases eg : g l[i] (wipeD σ own) with
          | none => rw [eg] at pp; exact pp.elim
          | some σ1 =>
            rw [eg] at pp
            intro σV1 rs1 hw1
            refine ⟨hw1.trans (wipe_idem own), ((⟨X.K, B, jt⟩ : Zt).bar D).B, σ1, h, η', rs1, rhy, ?_⟩
            have hD2 : H2 D = some (.lst vs) := sy.keep _ _ hDv hn
            -- the test
            have pp2 : Post ⟨X.K, B, jt⟩ W σV η0 h0.length H0 (NewL ⟨X.K, B, jt⟩ H) ((tt σ1 h).nox.bind fun b h1 => (if b then (elt σ1 h1).nox.bind fun y h2 => (compL g tt elt (l.drop (i + 1)) (wipeD σ own) h2).bind fun ys h3 => .ok (y :: ys) h3 else compL g tt elt (l.drop (i + 1)) (wipeD σ own) h1).bind fun ys h' => .ok (acc ++ ys) h') Q := by
              replace pp : Post ⟨X.K, B, jt⟩ W σV η0 h0.length H0 (NewL ⟨X.K, B, jt⟩ H) (((tt σ1 h).nox.bind fun b h1 => if b then (elt σ1 h1).nox.bind fun y h2 => (compL g tt elt (l.drop (i + 1)) (wipeD σ own) h2).bind fun ys h3 => .ok (y :: ys) h3 else compL g tt elt (l.drop (i + 1)) (wipeD σ own) h1).bind fun ys h' => .ok (acc ++ ys) h') Q := pp
              cases et : tt σ1 h with
              | ok b h1 => rw [et] at pp; exact pp
              | exc _ _ => rw [et] at pp; exact pp.elim
              | stuck => rw [et] at pp; exact pp.elim
            refine Post.nox pp2 fun b h1 _ p3 η1 H3 b' s1 rh1 eb => ?_
            cases (show b = b' from eb)
            have hD3 : H3 D = some (.lst vs) := s1.keep _ _ hD2 hn
            have hn3 : ∀ j, j < h1.length → η1 j ≠ D := s1.apart hD2 hn
            cases b with
            | false => exact ⟨h1, η1, acc, vs, (s.trans sy).trans s1, rh1, hn3, hD3, RVs.step s1 _ _ (RVs.step sy _ _ ra), by omega, p3⟩
            | true =>
              refine ⟨((⟨X.K, B, jt⟩ : Zt).bar D).B, σ1, h1, η1, rs1.step s1, rh1, ?_⟩
              have pp3 : Post ⟨X.K, B, jt⟩ W σV η0 h0.length H0 (NewL ⟨X.K, B, jt⟩ H) ((elt σ1 h1).nox.bind fun y h2 => (compL g tt elt (l.drop (i + 1)) (wipeD σ own) h2).bind fun ys h' => .ok (acc ++ [y] ++ ys) h') Q := by
                simp only [if_true] at p3
                cases ee : elt σ1 h1 with
                | exc _ _ => rw [ee] at p3; exact p3.elim
                | stuck => rw [ee] at p3; exact p3.elim
                | ok y h2 =>
                  rw [ee] at p3
                  replace p3 : Post ⟨X.K, B, jt⟩ W σV η0 h0.length H0 (NewL ⟨X.K, B, jt⟩ H) (((compL g tt elt (l.drop (i + 1)) (wipeD σ own) h2).bind fun ys h3 => .ok (y :: ys) h3).bind fun ys h' => .ok (acc ++ ys) h') Q := p3
                  show Post ⟨X.K, B, jt⟩ W σV η0 h0.length H0 (NewL ⟨X.K, B, jt⟩ H) ((compL g tt elt (l.drop (i + 1)) (wipeD σ own) h2).bind fun ys h' => .ok (acc ++ [y] ++ ys) h') Q
                  cases ec : compL g tt elt (l.drop (i + 1)) (wipeD σ own) h2 with
                  | exc _ _ => rw [ec] at p3; exact p3
                  | stuck => rw [ec] at p3; exact p3
                  | ok ys h4 =>
                    rw [ec] at p3
                    have e4 : acc ++ [y] ++ ys = acc ++ (y :: ys) := by simp
                    show Post ⟨X.K, B, jt⟩ W σV η0 h0.length H0 (NewL ⟨X.K, B, jt⟩ H) (.ok (acc ++ [y] ++ ys) h4) Q
                    rw [e4]
                    exact p3
              refine Post.nox pp3 fun y h2 _ p4 η2 H4 v s2 rh2 rv2 => ?_
              have hD4 : H4 D = some (.lst vs) := s2.keep _ _ hD3 hn3
              have hn4 : ∀ j, j < h2.length → η2 j ≠ D := s2.apart hD3 hn3
              have ra4 : RVs ((⟨X.K, B, jt⟩ : Zt).bar D) η2 h2.length H4 acc vs := RVs.step s2 _ _ (RVs.step s1 _ _ (RVs.step sy _ _ ra))
              have rall : RVs ((⟨X.K, B, jt⟩ : Zt).bar D) η2 h2.length H4 (acc ++ [y]) (vs ++ [v]) := ra4.append (RVs.cons rv2 RVs.nil)
              refine ⟨vs, hD4, by rw [← RVs.length _ _ ra4, sizeLine_eq]; omega, h2, η2, acc ++ [y], vs ++ [v], ((((s.trans sy).trans s1).trans s2).updNew hD), RH.updB (Z := ⟨X.K, B, jt⟩) rh2 hn4, hn4, upd_same, Trn.updB.vs _ _ rall, by rw [List.length_append]; simp; omega, p4⟩
        · have e : i = l.length := by omega
          subst e
          rw [List.drop_length] at pp
          refine .inl ⟨y2 (Nat.le_refl _), pp η' H' (.ref D) s rhb.unbar ⟨D, vs, rfl, hDp, hDv, ?_, rhb, hn⟩⟩
          rw [List.append_nil]
          exact ra
    · rw [if_neg hb] at p; exact p.elim
/-- [elt for target in iter if ..] -/
theorem e_lc {elt tg iter : Expr} {ifs : List Expr} {scope : Scope} {own : List (Str × Nat)} {pos : Pos} {src : E1 (List D)} {g : G1} {tt : E1 Bool} {me : E1 D} (hN : X.N.Nodup) (hi : PI X tg iter (tI ⟨X.K, jt⟩ W src)) (ok : BlkOk X.N X.env.scope scope own)
    (hg : ∀ (s : Shared) (H : Hp) (C : Addr) (cl : List (Str × Addr)) (fp : List Addr), PG (X.blk s H scope (compEnvC scope cl C X.env) fp) tg (tG ⟨X.K, jt⟩ (own.map (·.2)) g)) (ht : ∀ (s : Shared) (H : Hp) (C : Addr) (cl : List (Str × Addr)) (fp : List Addr), PTs (X.blk s H scope (compEnvC scope cl C X.env) fp) ifs (tT ⟨X.K, jt⟩ W0 tt))
    (he : ∀ (s : Shared) (H : Hp) (C : Addr) (cl : List (Str × Addr)) (fp : List Addr), PE (X.blk s H scope (compEnvC scope cl C X.env) fp) elt (tE ⟨X.K, jt⟩ W0 me)) (hc : X.calm = true := by rfl) (hs : ∀ x, foldedSetIterable iter X.env x = pure x := by intro _; rfl) :
    PE X (.ListComp elt [⟨tg, iter, ifs, 0⟩] scope pos) (tN ⟨X.K, jt⟩ W (compE (own.map (·.2)) src g tt me)) := pe_of (pe_lc hc hN hi ok hg ht he hs) tLc_of
/-- y = [..] -/
theorem s_setLc (mu : Bool) {i : Nat} {y : Str} {py : Pos} {elt tg iter : Expr} {ifs : List Expr} {scope : Scope} {own : List (Str × Nat)} {pos spos : Pos} {src : E1 (List D)} {g : G1} {tt : E1 Bool} {me : E1 D} (hN : X.N.Nodup) (hi : PI X tg iter (tI ⟨X.K, jt⟩ W src)) (ok : BlkOk X.N X.env.scope scope own)
    (hg : ∀ (s : Shared) (H : Hp) (C : Addr) (cl : List (Str × Addr)) (fp : List Addr), PG (X.blk s H scope (compEnvC scope cl C X.env) fp) tg (tG ⟨X.K, jt⟩ (own.map (·.2)) g)) (ht : ∀ (s : Shared) (H : Hp) (C : Addr) (cl : List (Str × Addr)) (fp : List Addr), PTs (X.blk s H scope (compEnvC scope cl C X.env) fp) ifs (tT ⟨X.K, jt⟩ W0 tt))
    (he : ∀ (s : Shared) (H : Hp) (C : Addr) (cl : List (Str × Addr)) (fp : List Addr), PE (X.blk s H scope (compEnvC scope cl C X.env) fp) elt (tE ⟨X.K, jt⟩ W0 me)) (hy : X.N[i]? = some y := by rfl) (hyl : X.env.scope.names.lookup y = some .local := by rfl)
    (hsw : swapsWith (.ListComp elt [⟨tg, iter, ifs, 0⟩] scope pos) (some (.Name y py)) spos.line X.env = pure true := by exact sw_true rfl rfl rfl (by decide +kernel)) (hc : X.calm = true := by rfl) (hs : ∀ x, foldedSetIterable iter X.env x = pure x := by intro _; rfl) :
    PS X (.Assign [.Name y py] (.ListComp elt [⟨tg, iter, ifs, 0⟩] scope pos) spos) (tS ⟨X.K, jt⟩ W (setS i (if mu then newL (compE (own.map (·.2)) src g tt me) else pureL (compE (own.map (·.2)) src g tt me)))) := ps_of (ps_setLc hc hN hy hyl hsw hi ok hg ht he hs) fun Dn σV H hq => by
  refine tLc_of (X := X) (W := W) σV H _ ?_
  obtain ⟨B, σ, h, η, rs, rh, p⟩ := hq
  cases mu with
  | false =>
    refine ⟨B, σ, h, η, rs, rh, ?_⟩
    have p2 := postS_of (rel := relV ⟨X.K, B, jt⟩) (G := fun v H1 => Dn.nx (σV.set i (some v)) H1) rs p fun d h1 η1 H1 v _ s rh1 rv p1 => p1 η1 H1 _ Stp.refl rh1 ((rs.step s).set rv)
    refine Post.sq p2 fun l h1 η1 H1 v _ s rh1 nl p1 => ?_
    obtain ⟨a, vs, rfl, ha, ha1, r, rhb, hn⟩ := nl
    exact p1 η1 H1 _ Stp.refl rh1 (by unfold relV RV; exact ⟨a, vs, rfl, .inl ⟨_, ha1, rfl, hn, rh.nb ha⟩, Trn.unbar.vs _ _ r⟩)
  | true =>
    refine ⟨B, σ, h, η, rs, rh, ?_⟩
    have p2 := postS_of (rel := relV ⟨X.K, B, jt⟩) (G := fun v H1 => Dn.nx (σV.set i (some v)) H1) rs p fun d h1 η1 H1 v _ s rh1 rv p1 => p1 η1 H1 _ Stp.refl rh1 ((rs.step s).set rv)
    replace p2 : Post ⟨X.K, B, jt⟩ W σV η h.length H (relV ⟨X.K, B, jt⟩) (newL (compE (own.map (·.2)) src g tt me) σ h) (fun v H1 => Dn.nx (σV.set i (some v)) H1) := p2
    unfold newL at p2
    cases em : compE (own.map (·.2)) src g tt me σ h with
    | stuck => rw [em] at p2; exact p2
    | exc x h1 => rw [em] at p2; exact p2
    | ok l h1 =>
      rw [em] at p2
      intro η1 H1 v s rh1 nl
      obtain ⟨a, vs, rfl, ha, ha1, r, rhb, hn⟩ := nl
      have s2 : Stp η h.length H (ext η1 h1.length a) (h1 ++ [O.lst l]).length H1 := by
        rw [List.length_append]
        exact s.adopt ha
      refine p2 (ext η1 h1.length a) H1 _ s2 (rhb.adopt hn ha1 ⟨vs, rfl, r⟩) ?_
      unfold relV RV
      rw [ext_at, List.length_append]
      exact ⟨rfl, Nat.lt_succ_self _⟩
theorem t_yes : ∀ (s : Shared) (H : Hp) (C : Addr) (cl : List (Str × Addr)) (fp : List Addr) (scope : Scope), PTs (X.blk s H scope (compEnvC scope cl C X.env) fp) [] (tT ⟨X.K, jt⟩ W0 yesE) := fun s H C cl fp scope => ⟨fun pins s σV H Q I hq => pts_nil.run pins s σV H Q I (by
  obtain ⟨B, σ, h, η, rs, rh, p⟩ := hq
  exact p η H true Stp.refl rh rfl)⟩
end
/-! ### defs -/
section
variable {K : PySem.W.Frag} {B : Addr → Prop} {j1 j2 : Jt} {η : Nat → Addr} {n : Nat} {H : Hp} {h : AH}
theorem Trn.rej : Trn ⟨K, B, j1⟩ η n H ⟨K, B, j2⟩ η n H := .of rfl (fun _ _ _ q => q) fun _ hi => ⟨rfl, hi⟩
theorem RX.rej {x : Exn} {cls : Value} {d : Option Addr} (r : RX ⟨K, B, j1⟩ η n H x cls d) : RX ⟨K, B, j2⟩ η n H x cls d := r.to Trn.rej fun _ _ _ e1 e2 e3 => ⟨e1, e2, e3⟩
theorem RH.rej (rh : RH ⟨K, B, j1⟩ η h H) (hx : ∀ cls d x, j2 = some (cls, d, x) → RX ⟨K, B, j2⟩ η h.length H x cls d) : RH ⟨K, B, j2⟩ η h H where
  obj := fun i o e => let ⟨u, e1, r⟩ := rh.obj i o e; ⟨u, e1, Trn.rej.o o u r⟩
  inj := rh.inj
  bad := rh.bad
  jx := hx
theorem RH.calm (rh : RH ⟨K, B, j1⟩ η h H) : RH ⟨K, B, none⟩ η h H := rh.rej fun _ _ _ e => nomatch e
end
/-- a def's promise: it does what its program does -/
def spM (K : PySem.W.Frag) (n : Nat) (mf : List D → AH → R D) : Sp := fun vs H Q E => vs.length = n ∧ ∃ B h η ds, RH ⟨K, B, none⟩ η h H ∧ RVs ⟨K, B, none⟩ η h.length H ds vs ∧ Post ⟨K, B, none⟩ (fun cls dd _ H' => E cls dd H') [] η h.length H (relV ⟨K, B, none⟩) (mf ds h) Q
/-- a body run on arguments, n slots in all -/
def startD (n : Nat) (ds : List D) : SL := ds.map some ++ List.replicate (n - ds.length) none
def SR.out (r : SR) : R D := match r with
  | .rt d h => .ok d h
  | .nx _ h => .ok .non h
  | .exc x _ h => .exc x h
  | _ => .stuck
def runF (n : Nat) (m : S1) : List D → AH → R D := fun ds h => (m (startD n ds) h).out
theorem RS.start {Z : Zt} {η : Nat → Addr} {n : Nat} {H : Hp} {ds : List D} {vs : List V} (N : List Str) (r : RVs Z η n H ds vs) : RS Z η n H (startD N.length ds) (L2.start N vs) := by
  have hl := RVs.length _ _ r
  refine ⟨by unfold startD L2.start; simp [hl], fun i d e => ?_⟩
  unfold startD at e
  by_cases hi : i < ds.length
  · rw [List.getElem?_append_left (by simpa using hi), List.getElem?_map] at e
    cases ed : ds[i]? with
    | none => rw [ed] at e; cases e
    | some d' =>
      rw [ed] at e
      cases e
      obtain ⟨v, ev, rv⟩ := r.get ed
      refine ⟨v, ?_, rv⟩
      unfold L2.start
      rw [List.getElem?_append_left (by simpa [← hl] using hi), List.getElem?_map, ev]
      rfl
  · rw [List.getElem?_append_right (by simpa using hi), List.getElem?_replicate] at e
    split at e <;> cases e
section
variable {P : Program} {w : World} {K : PySem.W.Frag} {mg : Str → Option Value} {base : Heap} {x qual : Str} {params : Arguments} {body : List Stmt} {scope : Scope} {dvs : List V} {kws : List (Str × V)} {f : Addr} {fd : FuncData}
abbrev WD (E : XK) : WX := fun cls d _ H => E cls d H
theorem fn_ok {N ps : List Str} {k : Nat} {m : S1} (F : FunD K x qual params body scope dvs kws f fd) (S : FnScope N ps scope)
    (hbody : ∀ (cdv : Value) (A : Around) (outer : List Env) (s : Shared) (H : Hp) (E : XK), Room k (A.deeper (envOfC qual scope s.heap.objs.size f cdv)) → Takes (cxOf (L2.CX P w) P w K mg base N qual scope f cdv A outer s H E) (WD E) →
      PassesOwn (model P w) (A.deeper (envOfC qual scope s.heap.objs.size f cdv)) (envOfC qual scope s.heap.objs.size f cdv) (cxOf (L2.CX P w) P w K mg base N qual scope f cdv A outer s H E).xe →
      PSs (cxOf (L2.CX P w) P w K mg base N qual scope f cdv A outer s H E) body (tS ⟨K, none⟩ (WD E) m)) : FnOk P w K mg base (L2.CX P w) (k + 1) f fd ps (spM K ps.length (runF N.length m)) := by
  refine F.ok S (fun vs H Q E h => h.1) fun cdv A outer s H vs Q E hr h => ⟨_, hbody cdv A outer s H E hr (takes_of rfl rfl rfl rfl) (passes_of rfl), ?_⟩
  obtain ⟨hl, B, h, η, ds, rh, r, p⟩ := h
  refine ⟨B, startD N.length ds, h, η, RS.start N r, rh, ?_⟩
  unfold runF at p
  cases e : m (startD N.length ds) h with
  | nx σ' h' => rw [e] at p; exact fun η' H' σV' s rh' rs' => p η' H' .non s rh' RV.non
  | rt d h' => rw [e] at p; exact p
  | exc x σ' h' => rw [e] at p; exact fun η' H' cls dd σV' s rh' rx _ => p η' H' cls dd s rh' rx
  | bk _ _ => rw [e] at p; exact p.elim
  | ct _ _ => rw [e] at p; exact p.elim
  | stuck => rw [e] at p; exact p.elim
/-- a def that is never called -/
theorem fn_stuck {ps : List Str} {k : Nat} : FnOk P w K mg base (L2.CX P w) k f fd ps (spM K ps.length fun _ _ => .stuck) := ⟨fun vs H Q E h => h.1, fun _ _ _ _ _ _ _ _ _ _ _ _ _ h => by
  obtain ⟨_, _, _, _, _, _, _, p⟩ := h
  exact p.elim⟩
end
/-! ### calls of defs -/
/-- an argument list of n -/
def Len (ms : E1 (List D)) (n : Nat) : Prop := ∀ σ h ds h1, ms σ h = .ok ds h1 → ds.length = n
theorem len_nil : Len (pureE []) 0 := fun σ h ds h1 e => by cases e; rfl
theorem len_cons {m : E1 D} {ms : E1 (List D)} {n : Nat} (h : Len ms n) : Len (consE m ms) (n + 1) := fun σ hh ds h1 e => by
  unfold consE at e
  cases em : m σ hh with
  | stuck => rw [em] at e; cases e
  | exc _ _ => rw [em] at e; cases e
  | ok x h2 =>
    rw [em] at e
    replace e : ((ms σ h2).bind fun l h2 => R.ok (x :: l) h2) = .ok ds h1 := e
    cases el : ms σ h2 with
    | stuck => rw [el] at e; cases e
    | exc _ _ => rw [el] at e; cases e
    | ok l h3 =>
      rw [el] at e
      replace e : R.ok (x :: l) h3 = .ok ds h1 := e
      injection e with e1 e2
      rw [← e1, List.length_cons, h σ h2 l h3 el]
/-- another wish that the exceptions' one comes down to -/
theorem Post.wish {α β : Type} {Z : Zt} {W W' : WX} {σV σV' : L2.St} {η : Nat → Addr} {n : Nat} {H : Hp} {rel : (Nat → Addr) → AH → Hp → α → β → Prop} {r : R α} {Q : β → Hp → Prop} (p : Post Z W σV η n H rel r Q) (hw : ∀ cls dd H', W cls dd σV H' → W' cls dd σV' H' := by exact fun _ _ _ q => q) : Post Z W' σV' η n H rel r Q := by
  cases r with
  | ok d h' => exact p
  | exc x h' => exact fun η2 H2 cls dd t rh rx => hw _ _ _ (p η2 H2 cls dd t rh rx)
  | stuck => exact p
def callF (mf : List D → AH → R D) (ms : E1 (List D)) : E1 D := fun σ h => (ms σ h).bind mf
theorem Post.calm {K : PySem.W.Frag} {B : Addr → Prop} {W : WX} {σV : L2.St} {η : Nat → Addr} {h : AH} {H : Hp} {r : R D} {Q : VK} (rh : RH ⟨K, B, jt⟩ η h H) (p : Post ⟨K, B, jt⟩ W σV η h.length H (relV ⟨K, B, jt⟩) r Q) : Post ⟨K, B, none⟩ (fun cls dd _ H' => W cls dd σV H') [] η h.length H (relV ⟨K, B, none⟩) r Q := by
  have up : ∀ {η' : Nat → Addr} {h' : AH} {H' : Hp}, Stp η h.length H η' h'.length H' → RH ⟨K, B, none⟩ η' h' H' → RH ⟨K, B, jt⟩ η' h' H' := fun s rh' => rh'.rej fun cls d x e => (rh.jx cls d x e).step s
  cases r with
  | ok d h' => exact fun η2 H2 v t rh' rv => p η2 H2 v t (up t rh') (Trn.rej.v _ _ rv)
  | exc x h' => exact fun η2 H2 cls dd t rh' rx => p η2 H2 cls dd t (up t rh') rx.rej
  | stuck => exact p
section
variable {X : Cx} {W : WX} {k : Nat} {f : Addr} {fd : FuncData} {ps : List Str} {x : Str} {p pos : Pos} {e : Expr} {es : List Expr} {ms : E1 (List D)} {mf : List D → AH → R D}
theorem e_call (F : FnOk X.prog X.w X.K X.mg X.base (L2.CX X.prog X.w) k f fd ps (spM X.K ps.length mf)) (hr : Room k X.A) (hm : X.mg x = some (.ref f)) (hk : PySem.W.keepIn X.K (.ref f) = true) (hb : Binds X.K fd ps []) (tk : Takes X W) (ha : PA X (e :: es) (tA ⟨X.K, jt⟩ W ms)) (hn : Len ms ps.length) (hg : Gl X x := by rfl)
    (hdb : (x == ("__debug__" : Str)) = false := by decide) (he : starEach (e :: es) X.env = (false, eval e X.env) :: starEach es X.env := by rfl) (hpl : (backTo pos (starEach es X.env)).any (·.1) = false := by rfl) :
    PE X (.Call (.Name x p) (e :: es) [] pos) (tE ⟨X.K, jt⟩ W (callF mf ms)) := by
  refine pe_of (pe_callS (sp := spM X.K ps.length mf) F hr hg hm hk hb (fun σ => passAt tk σ) ha hdb he hpl) fun σV H Q hq => ?_
  obtain ⟨B, σ, h, η, rs, rh, p⟩ := hq
  refine ⟨B, σ, h, η, rs, rh, Post.sq p fun ds h1 η1 H1 vs em s rh1 rvs p1 => ?_⟩
  have hlen : ds.length = ps.length := hn σ h ds h1 em
  exact ⟨by rw [← RVs.length _ _ rvs]; exact hlen, B, h1, η1, ds, rh1.calm, Trn.rej.vs _ _ rvs, Post.calm rh1 p1⟩
end
end RF

set_option maxRecDepth 100000
set_option maxHeartbeats 2000000
/-! RFx: the own error Fallen(Exception), whose __init__ keeps a word; raise, try, fields. -/
namespace RFX
open PySem PySem.W PySem.Calls PyProof.Rows PySem.HandSPX PySem.ESX
def fA (p1 p2 : Pos) : Arguments := ⟨[], [⟨"self", none, p1⟩, ⟨"word", none, p2⟩], none, [], [], none, []⟩
def fB (q1 q2 q3 q4 : Pos) : List Stmt := [.Assign [.Attribute (.Name "self" q1) "word" q2] (.Name "word" q3) q4]
def fS : Scope := ⟨.function, [(PySem.Str.ofString "self", .local), (PySem.Str.ofString "word", .local)], false, false, []⟩
/-- what is to be seen of the class in the written part -/
def clsB (K : Frag) (C : Addr) : Bool := (clsIn K C).any fun cd => decide (cd.mro = .ref C :: exTail) && cd.hasDict
def falB (K : Frag) (C fI : Addr) : Bool := excInitIn K C exTail "Exception.__new__" && clsB K C && decide (findIn K (.ref C) "__setattr__" = some (some (.builtin "object.__setattr__"))) && L2.xfB K C && decide (findIn K (.ref C) "word" = some none) && decide (findIn K (.ref C) "__init__" = some (some (.ref fI))) && decide (typeIn K (.ref fI) = some (.type "function")) && keepIn K (.ref C) && decide (subIn K (.ref C) (.type "BaseException") = some true) && decide (typeIn K (.ref C) = some (.type "type"))
structure Fal (K : Frag) (mg : Str → Option Value) (C fI : Addr) : Prop where
  gC : mg "Fallen" = some (.ref C)
  b : falB K C fI = true
  fn : ∃ (p1 p2 q1 q2 q3 q4 : Pos) (fd : FuncData), L2.FunD K "__init__" "Fallen.__init__" (fA p1 p2) (fB q1 q2 q3 q4) fS [] [] fI fd
section
variable {K : Frag} {mg : Str → Option Value} {C fI : Addr} (T : Fal K mg C fI)
include T
theorem Fal.all : excInitIn K C exTail "Exception.__new__" = true ∧ clsB K C = true ∧ findIn K (.ref C) "__setattr__" = some (some (.builtin "object.__setattr__")) ∧ L2.XfC K C ∧ findIn K (.ref C) "word" = some none ∧ findIn K (.ref C) "__init__" = some (some (.ref fI)) ∧ typeIn K (.ref fI) = some (.type "function") ∧ keepIn K (.ref C) = true ∧ subIn K (.ref C) (.type "BaseException") = some true ∧ typeIn K (.ref C) = some (.type "type") := by
  have h := T.b
  unfold falB at h
  simp only [Bool.and_eq_true, decide_eq_true_eq] at h
  obtain ⟨⟨⟨⟨⟨⟨⟨⟨⟨h1, h2⟩, h3⟩, h4⟩, h5⟩, h6⟩, h7⟩, h8⟩, h9⟩, h10⟩ := h
  exact ⟨h1, h2, h3, L2.xfB_ok h4, h5, h6, h7, h8, h9, h10⟩
theorem Fal.cls : ∃ cd, clsIn K C = some cd ∧ cd.mro = .ref C :: exTail ∧ cd.hasDict = true := by
  have h := T.all.2.1
  unfold clsB at h
  cases e : clsIn K C with
  | none => rw [e] at h; cases h
  | some cd =>
    rw [e] at h
    replace h : (decide (cd.mro = .ref C :: exTail) && cd.hasDict) = true := h
    simp only [Bool.and_eq_true, decide_eq_true_eq] at h
    exact ⟨cd, rfl, h.1, h.2⟩
end
/-- what __init__ leaves of a fresh one at x -/
structure Inited (h h' : Heap) (x C dx t1 : Addr) (v : Value) : Prop where
  keep : ∀ b o, b ≠ x → h.get? b = some o → h'.get? b = some o
  obj : h'.get? x = some { cls := .ref C, dict := some dx, data := .fields #[.ref t1, .none, .none, .none, .bool false, .none] }
  dbig : h.objs.size ≤ dx
  dne : dx ≠ x
  ns : h'.Ns1 dx (fun y => if y = "word" then some v else none)
structure Made (h h' : Heap) (e C d : Addr) (v : Value) : Prop where
  keep : ∀ b o, h.get? b = some o → h'.get? b = some o
  new : h.objs.size ≤ e
  obj : ∃ oe vs, h'.get? e = some oe ∧ oe.cls = .ref C ∧ oe.dict = some d ∧ oe.data = .fields vs ∧ vs[1]? = some .none
  dbig : h.objs.size ≤ d
  dne : d ≠ e
  ns : h'.Ns1 d (fun y => if y = "word" then some v else none)
theorem ldV {M : Model} {s : Shared} {name : Str} {scope : Scope} {L a : Addr} {cd : Value} {m : Str → Option Value} {x : Str} {pos : Pos} {v : Value} {Q : Value → Shared → Prop} {A : Around} {E : Value → Shared → Prop} (hn : s.heap.Ns L m) (hv : m x = some v) (h : Q v s)
    (hk : scope.kind = .function := by rfl) (hl : (envOfC name scope L a cd).kindOf x = some .local := by rfl) (hd : (x == ("__debug__" : Str)) = false := by decide) :
    wpAny M A (eval (.Name x pos) (envOfC name scope L a cd)) Q E s := wpAny_Name (wpAny_loadName_local hk hl hn hv h) hd
section
variable {prog : Program} {w : World} {A : Around} {E : Value → Shared → Prop} {R : Result → Shared → Prop} {s : Shared} {K : Frag} {mg : Str → Option Value} {C fI : Addr}
theorem fal_init (T : Fal K mg C fI) {x t0 : Addr} {v : Value} (X : K.In s.heap) (hlim : s.heap.NoLimit) (hx : s.heap.get? x = some (excO C t0)) (hroom : A.depth < recursionLimit)
    (hq : ∀ h' tk dx, Inited s.heap h' x C dx t0 v → R (.ok (.ret .none)) { s with heap := h', toks := tk }) :
    codeAny (model prog w) A (.call (.ref fI) ⟨[.ref x, v], []⟩) R s := by
  obtain ⟨p1, p2, q1, q2, q3, q4, fd, F⟩ := T.fn
  have hb := L2.FunD.bindsA (ps := ["self", "word"]) F (fun _ _ _ _ _ _ us hl => match us, hl with | [_, _], _ => rfl) s [.ref x, v] rfl
  obtain ⟨oc, od, dV, kV, doc, pm, an, cdv, ct, osl, rfl, ho, hcd, hdv, hkw⟩ := F.ex
  obtain ⟨cd, hcl, hmro, hhd⟩ := T.cls
  obtain ⟨_, _, sa, xf, noW, _⟩ := T.all
  refine Att.call_fn (binds := [("self", .ref x), ("word", v)]) X hlim ho hcd hroom hb (by first | rfl | decide | with_unfolding_all rfl) (fun s₁ IC => ?_) rfl rfl rfl
  obtain ⟨h₁, tk₁, rfl⟩ := IC.toInCall.same
  have k : ∀ b o, s.heap.get? b = some o → h₁.get? b = some o := IC.toInCall.keep
  have hn := IC.toInCall.ns
  have X₁ : K.In h₁ := X.keeps k
  have hx₁ := k _ _ hx
  show wpAny _ _ (execs _ _) _ _ _
  refine wpAny_execs_cons (plainObj_wpAny_Assign_Attribute ?_)
  refine ldV (v := v) hn (by first | rfl | with_unfolding_all rfl | kernel_rfl) (ldV (v := .ref x) hn (by first | rfl | with_unfolding_all rfl | kernel_rfl) ?_)
  refine set_plain X₁ (ox := excO C t0) (od := none) ⟨hx₁, rfl, rfl, trivial⟩ sa ?_
  refine osa_new X₁ hx₁ hcl hmro hhd noW (fun h₃ tk₃ dx k₃ dn dne hx₃ hn₃ => ?_)
  show wpAny _ _ (execs _ _) _ _ _
  have z : s.heap.objs.size < h₁.objs.size := hn.lt
  exact wpAny_execs_nil (hq h₃ tk₃ dx ⟨fun b o hb e => k₃ b o hb (k b o e), hx₃, Nat.le_of_lt (Nat.lt_of_lt_of_le z dn), dne, hn₃⟩)
theorem fal_made (T : Fal K mg C fI) {v : Value} (X : K.In s.heap) (hlim : s.heap.NoLimit) (hroom : A.depth + 1 < recursionLimit)
    (hq : ∀ h' tk e d, Made s.heap h' e C d v → R (.ok (.ret (.ref e))) { s with heap := h', toks := tk }) :
    codeAny (model prog w) A (.call (.ref C) ⟨[v], []⟩) R s := by
  obtain ⟨hin, _, sa, xf, noW, iC, tC, _⟩ := T.all
  obtain ⟨nm, N, qn, bs, bm, hdct, sn, sub, ab, col, dd, k0, k1, k2, k3, k5, hC, hbm⟩ := excInit_of X hin
  obtain ⟨hp, g, dr, tk, os⟩ := s
  have k : ∀ b o, hp.get? b = some o → ((hp.push (kdv_tup [v])).push (excO C hp.objs.size)).get? b = some o := fun b o e => Heap.get?_push_of_some _ (Heap.get?_push_of_some _ e)
  have hget : ((hp.push (kdv_tup [v])).push (excO C hp.objs.size)).get? (hp.objs.size + 1) = some (excO C hp.objs.size) := by heap_get
  refine call_own F.excBase_Exception hbm hC (looks_findIn X iC) (fun self => bind_fn X self tC) (by rw [sizeLine_eq]; exact (by decide : 1 ≤ 16777216)) ?_
  refine fal_init (s := ⟨(hp.push (kdv_tup [v])).push (excO C hp.objs.size), g, dr, tk, os⟩) T (X.keeps k) (hlim.keeps k) hget ?_ fun h' tk' dx ⟨k', hx, dn, dne, hns⟩ => ?_
  · show A.depth + 1 < recursionLimit
    exact hroom
  · have old : ∀ b o, hp.get? b = some o → h'.get? b = some o := fun b o e => k' b o (Nat.ne_of_lt (Nat.lt_succ_of_lt (Heap.lt_size e))) (k b o e)
    have z : hp.objs.size + 1 + 1 ≤ dx := by
      first
        | (simpa only [Heap.size_push] using dn)
        | exact dn
        | (have q := dn; rw [Heap.size_push, Heap.size_push] at q; exact q)
    exact ⟨rfl, hq h' tk' (hp.objs.size + 1) dx ⟨old, Nat.le_succ _, ⟨_, _, hx, rfl, rfl, rfl, rfl⟩, Nat.le_trans (Nat.le_trans (Nat.le_succ _) (Nat.le_succ _)) z, dne, hns⟩⟩
end
end RFX
namespace RF
open PySem PySem.Spec PyProof.Rows L2
theorem relO_word {v : V} {v' : Value} (r : RelV v v') (f : Str) : RelO (List.lookup f [(("word" : Str), v)]) (if f = "word" then some v' else none) := by
  by_cases hw : f = "word"
  · subst hw
    rw [if_pos rfl]
    have q : List.lookup ("word" : Str) [(("word" : Str), v)] = some v := by simp [List.lookup]
    rw [q]
    exact r
  · rw [if_neg hw]
    have qw : (f == ("word" : Str)) = false := by simpa using hw
    have q2 : List.lookup f [(("word" : Str), v)] = none := by simp [List.lookup, qw]
    rw [q2]
    trivial
section
variable {X : Cx} {C fI : Addr}
def tMkFal (C : Addr) (ta : TA) : L2.St → Hp → XK → Prop := fun σ H Q => ta σ H fun vs H1 => ∃ v, vs = [v] ∧ ∀ d, H1 d = none → Q (.ref C) (some d) (upd H1 d (.xd [(("word" : Str), v)]))
theorem pmk_fal {a : Expr} {ta : TA} {p pos : Pos} {k : Nat} (T : RFX.Fal X.K X.mg C fI) (hr : Room k X.A) (ha : PA X [a] ta) (hg : Gl X "Fallen" := by rfl)
    (he : starEach (a :: []) X.env = (false, eval a X.env) :: starEach [] X.env := by rfl) (hpl : (backTo pos (starEach [] X.env)).any (·.1) = false := by rfl) :
    PMk X (.Call (.Name "Fallen" p) [a] [] pos) (tMkFal C ta) := by
  intro pins s σ H Q I h
  obtain ⟨_, _, _, _, _, _, _, kC, exC, tyC⟩ := T.all
  refine wpAny_Call_Name_kw (ld_glob I hg T.gC ?_)
  refine PySem.W.callWith_K (h₀ := X.base) I.ok.mod.kin kC (thn (ha.run pos pins s σ H _ I h) fun us s1 hh => ?_) he hpl
  obtain ⟨vs, H1, I1, r1, v, ev, q1⟩ := hh
  subst ev
  refine ⟨I1.kIn, ?_⟩
  cases r1 with
  | cons rv rn =>
    rename_i v' us'
    cases rn
    show wpAny _ _ (call (.ref C) [v']) _ _ _
    have hlim := I1.nolimit
    obtain ⟨hp, g, dr, tk, os⟩ := s1
    refine wpAny_call (RFX.fal_made T I1.kIn hlim (by have := hr.dp; omega) fun h' tk' e d M => ?_)
    show MkP X pins σ Q (.ref e) ⟨h', g, dr, tk', os⟩
    obtain ⟨oe, fv, hoe, hc, hd, hdat, h1⟩ := M.obj
    have hns := M.ns
    obtain ⟨G', g1, g2⟩ := restrict h' fun b => decide (b ≠ e)
    have gk : ∀ b, b ≠ e → G'.get? b = h'.get? b := fun b hb => g1 b (decide_eq_true hb)
    have ge : G'.get? e = none := g2 e (by simp)
    have old : ∀ b o, hp.get? b = some o → G'.get? b = some o := fun b o q => (gk b (Nat.ne_of_lt (Nat.lt_of_lt_of_le (Heap.lt_size q) M.new))).trans (M.keep b o q)
    have ob : ObjOk X.prog X.w (upd H1 d (.xd [(("word" : Str), v)])) G' d (.xd [(("word" : Str), v)]) :=
      ⟨_, hns.at (fun o q => (gk d M.dne).trans q), fun f => relO_word rv f⟩
    have J : Inv X pins σ (upd H1 d (.xd [(("word" : Str), v)])) ⟨G', g, dr, tk', os⟩ := I1.laid (t' := tk') old M.dbig ob
    refine ⟨e, oe, fv, ⟨G', g, dr, tk', os⟩, _, .ref C, some d, rfl, J, fun b o q => ?_, ge, hoe, ⟨hc, hd⟩, hdat, h1, ?_, rfl, I1.bare, raises_own exC tyC, q1 d (I1.hok.fresh M.dbig)⟩
    · by_cases hb : b = e
      · have q' : G'.get? b = some o := q
        rw [hb, ge] at q'; cases q'
      · exact (gk b hb).symm.trans q
    · rw [upd_ne (Ne.symm M.dne)]
      exact I1.hok.fresh M.new
end
end RF

set_option maxRecDepth 100000
set_option maxHeartbeats 2000000
/-! RFf: -x, calls without arguments, methods of lists, x * n, tuple(range(n)), index, dict displays, raise, try. -/
namespace RF
open PySem PySem.Spec PyProof.Rows L2
variable {jt : Jt}
section
variable {X : Cx} {W : WX} {a b e o : Expr} {ma mb mo : E1 D} {pos apos cpos : Pos}
theorem e_neg (ha : PE X a (tE ⟨X.K, jt⟩ W ma)) : PE X (.UnaryOp .USub a pos) (tE ⟨X.K, jt⟩ W (unE negD ma)) := e_un un_neg (fun B jt W σV η h H x v Q rh rv p => by
  cases x with
  | int i => exact ⟨i, rv.intS, p η H _ Stp.refl rh RV.int⟩
  | _ => exact p.elim) ha
theorem e_call0 {k : Nat} {f : Addr} {fd : FuncData} {x : Str} {p : Pos} {mf : List D → AH → R D} (F : FnOk X.prog X.w X.K X.mg X.base (L2.CX X.prog X.w) k f fd [] (spM X.K 0 mf)) (hr : Room k X.A) (hm : X.mg x = some (.ref f)) (hk : PySem.W.keepIn X.K (.ref f) = true) (hb : Binds X.K fd [] []) (tk : Takes X W) (hg : Gl X x := by rfl)
    (hdb : (x == ("__debug__" : Str)) = false := by decide) : PE X (.Call (.Name x p) [] [] pos) (tE ⟨X.K, jt⟩ W (fun _ h => mf [] h)) := by
  refine ⟨fun pins s σV H Q I hq => ?_⟩
  refine wpAny_Call_Name_kw (ld_glob I hg hm ?_ hdb)
  refine PySem.W.callWith_K0 I.kIn hk (run_fnS (us := []) (vs := []) (sp := spM X.K 0 mf) (E := WE W) F hr hb (passAt tk σV) I .nil ?_)
  obtain ⟨B, σ, h, η, rs, rh, p⟩ := hq
  exact ⟨rfl, B, h, η, [], rh.calm, RVs.nil, Post.calm rh p⟩
/-! ### methods of written lists -/
def lstAt (h : AH) : D → Option (Nat × List D)
  | .ref i => match h[i]? with
    | some (.lst l) => some (i, l)
    | _ => none
  | _ => none
theorem lstAt_ok {Z : Zt} {η : Nat → Addr} {h : AH} {H : Hp} {d : D} {v : V} {i : Nat} {l : List D} (rh : RH Z η h H) (r : RV Z η h.length H d v) (e : lstAt h d = some (i, l)) : i < h.length ∧ v = .ref (η i) ∧ ∃ vs, H (η i) = some (.lst vs) ∧ RVs Z η h.length H l vs := by
  cases d with
  | ref j =>
    unfold RV at r
    simp only [lstAt] at e
    cases ei : h[j]? with
    | none => simp only [ei] at e; cases e
    | some ob =>
      simp only [ei] at e
      cases ob with
      | lst l' =>
        have e' := Option.some.inj e
        injection e' with e1 e2
        subst e1 e2
        obtain ⟨u, eu, vs, e2, rs⟩ := rh.obj j _ ei
        subst e2
        exact ⟨r.2, r.1, vs, eu, rs⟩
      | _ => cases e
  | _ => cases e
def getR {α β : Type} (o : Option α) (f : α → R β) : R β := match o with
  | some a => f a
  | none => .stuck
theorem post_getR {α β γ : Type} {Z : Zt} {W : WX} {σV : L2.St} {η : Nat → Addr} {n : Nat} {H : Hp} {rel : (Nat → Addr) → AH → Hp → β → γ → Prop} {Q : γ → Hp → Prop} {o : Option α} {f : α → R β} (p : Post Z W σV η n H rel (getR o f) Q) : ∃ d, o = some d ∧ Post Z W σV η n H rel (f d) Q := by
  cases o with
  | none => exact p.elim
  | some d => exact ⟨d, rfl, p⟩
def appE (mo me : E1 D) : E1 D := fun σ h => (mo σ h).bind fun x h1 => (me σ h1).bind fun y h2 => getR (lstAt h2 x) fun p => if Nat.blt p.2.length 16777216 then .ok .non (h2.set p.1 (.lst (p.2 ++ [y]))) else .stuck
def isL (h : AH) : D → Bool
  | .ref i => match h[i]? with
    | some (.lst _) => true
    | _ => false
  | _ => false
/-- a written list stays one -/
theorem tyV_list {Z : Zt} {K : PySem.W.Frag} {η : Nat → Addr} {h : AH} {H : Hp} {d : D} {v : V} (rh : RH Z η h H) (r : RV Z η h.length H d v) (e : isL h d = true) : tyV K "list" v H := by
  cases d with
  | ref j =>
    unfold RV at r
    simp only [isL] at e
    cases ei : h[j]? with
    | none => simp only [ei] at e; cases e
    | some ob =>
      simp only [ei] at e
      cases ob with
      | lst l' =>
        obtain ⟨u, eu, vs, e2, rs⟩ := rh.obj j _ ei
        subst e2
        rw [r.1]
        exact .inl ⟨rfl, vs, .inl (.inl eu)⟩
      | _ => cases e
  | _ => cases e
def atL (mo : E1 D) (f : D → AH → R D) : E1 D := fun σ h => (mo σ h).bind fun x h1 => if isL h1 x then f x h1 else .stuck
theorem post_ifL {β γ : Type} {Z : Zt} {W : WX} {σV : L2.St} {η : Nat → Addr} {n : Nat} {H : Hp} {rel : (Nat → Addr) → AH → Hp → β → γ → Prop} {Q : γ → Hp → Prop} {c : Bool} {r : R β} (p : Post Z W σV η n H rel (if c = true then r else .stuck) Q) : c = true ∧ Post Z W σV η n H rel r Q := by
  cases c with
  | true => exact ⟨rfl, p⟩
  | false => exact p.elim
/-- x.append(e) -/
def appL (mo me : E1 D) : E1 D := fun σ h => (mo σ h).bind fun x h1 => if isL h1 x then (me σ h1).bind fun y h2 => getR (lstAt h2 x) fun p => if Nat.blt p.2.length 16777216 then .ok .non (h2.set p.1 (.lst (p.2 ++ [y]))) else .stuck else .stuck
theorem e_append (ho : PE X o (tE ⟨X.K, jt⟩ W mo)) (he : PE X e (tE ⟨X.K, jt⟩ W mb)) (hbase : attributeBase o "append" X.env (eval o X.env) = eval o X.env := by rfl)
    (hfew : ((backTo cpos (starEach [e] X.env)).all (fun x => !x.1) && (backToKw cpos (keywordEach [] X.env)).all (fun x => x.1.isSome) && decide (([e] : List Expr).length + ([] : List Keyword).length + (if ([] : List Keyword).isEmpty then 0 else 1) < 30)) = true := by rfl)
    (hline : (apos.endLine == cpos.line) = true := by rfl) (hs : starEach [e] X.env = (false, eval e X.env) :: starEach [] X.env := by rfl) (hplain : (backTo cpos (starEach [] X.env)).any (·.1) = false := by rfl) :
    PE X (.Call (.Attribute o "append" apos) [e] [] cpos) (tE ⟨X.K, jt⟩ W (appL mo mb)) := pe_of (pe_bm PySem.F.plainAttrs_list PySem.F.slot_list_append PySem.F.type_list_append mt_append ho (pa_cons he pa_nil hs) hbase hfew hline hs hplain) fun σV H Q hq => by
  obtain ⟨B, σ, h, η, rs, rh, p⟩ := hq
  refine ⟨B, σ, h, η, rs, rh, Post.sq p fun x h1 η1 H1 v _ s rh1 rv p1 => ?_⟩
  obtain ⟨hl, p1⟩ := post_ifL p1
  refine ⟨tyV_list rh1 rv hl, ?_⟩
  refine ⟨B, σ, h1, η1, rs.step s, rh1, Post.sq p1 fun y h2 η2 H2 u _ s2 rh2 ru p2 => ?_⟩
  obtain ⟨⟨i, l⟩, e1, p2⟩ := post_getR p2
  obtain ⟨hb, p2⟩ := post_ifL p2
  have hz : l.length < 16777216 := Nat.lt_of_le_of_lt (m := 16777215) (by simpa [Nat.blt] using hb) (by decide)
  obtain ⟨hi, ev, vs, eH, rvs⟩ := lstAt_ok rh2 (RV.step s2 _ _ rv) e1
  refine ⟨η2 i, vs, u, ev, rfl, eH, by rw [← RVs.length _ _ rvs, sizeLine_eq]; exact hz, ?_⟩
  have st : Stp η2 h2.length H2 η2 (h2.set i (O.lst (l ++ [y]))).length (upd H2 (η2 i) (.lst (vs ++ [u]))) := by
    rw [List.length_set]
    exact Stp.write hi
  exact p2 η2 _ _ st (rh2.write hi ⟨_, rfl, rvs.append (RVs.cons ru RVs.nil)⟩) RV.non
/-- x.pop() -/
def popE (mo : E1 D) : E1 D := fun σ h => (mo σ h).bind fun x h1 => getR (lstAt h1 x) fun p => getR p.2[p.2.length - 1]? fun y => .ok y (h1.set p.1 (.lst p.2.dropLast))
theorem isL_of {h : AH} {d : D} {p : Nat × List D} (e : lstAt h d = some p) : isL h d = true := by
  cases d with
  | ref j =>
    simp only [lstAt] at e
    simp only [isL]
    cases ei : h[j]? with
    | none => simp only [ei] at e; cases e
    | some ob =>
      simp only [ei] at e
      cases ob with
      | lst l => rfl
      | _ => cases e
  | _ => cases e
theorem RVs.dropLast {Z : Zt} {η : Nat → Addr} {n : Nat} {H : Hp} {l : List D} {vs : List V} (r : RVs Z η n H l vs) : RVs Z η n H l.dropLast vs.dropLast := by
  rw [List.dropLast_eq_take, List.dropLast_eq_take, ← RVs.length _ _ r]
  exact r.take _
theorem RVs.eraseIdx {Z : Zt} {η : Nat → Addr} {n : Nat} {H : Hp} : ∀ {l : List D} {vs : List V} (i : Nat), RVs Z η n H l vs → RVs Z η n H (l.eraseIdx i) (vs.eraseIdx i)
  | [], vs, i, r => by unfold RVs at r; rw [r]; exact RVs.nil
  | d :: l, vs, 0, r => by
    unfold RVs at r
    obtain ⟨v, r0, rfl, r1, r2⟩ := r
    exact r2
  | d :: l, vs, i + 1, r => by
    unfold RVs at r
    obtain ⟨v, r0, rfl, r1, r2⟩ := r
    exact RVs.cons r1 (RVs.eraseIdx i r2)
theorem e_pop (ho : PE X o (tE ⟨X.K, jt⟩ W mo)) (hbase : attributeBase o "pop" X.env (eval o X.env) = eval o X.env := by rfl) (hline : (apos.endLine == cpos.line) = true := by rfl) :
    PE X (.Call (.Attribute o "pop" apos) [] [] cpos) (tE ⟨X.K, jt⟩ W (popE mo)) := pe_of (pe_bm0 PySem.F.plainAttrs_list PySem.F.slot_list_pop PySem.F.type_list_pop mt_pop ho hbase hline) fun σV H Q hq => by
  obtain ⟨B, σ, h, η, rs, rh, p⟩ := hq
  refine ⟨B, σ, h, η, rs, rh, Post.sq p fun x h1 η1 H1 v _ s rh1 rv p1 => ?_⟩
  obtain ⟨⟨i, l⟩, e1, p1⟩ := post_getR p1
  obtain ⟨y, ey, p1⟩ := post_getR p1
  obtain ⟨hi, ev, vs, eH, rvs⟩ := lstAt_ok rh1 rv e1
  obtain ⟨u, eu, ru⟩ := rvs.get ey
  refine ⟨tyV_list rh1 rv (isL_of e1), η1 i, vs, u, ev, rfl, eH, by rw [← RVs.length _ _ rvs]; exact eu, ?_⟩
  have w : Stp η1 h1.length H1 η1 h1.length (upd H1 (η1 i) (.lst vs.dropLast)) := Stp.write hi
  have st : Stp η1 h1.length H1 η1 (h1.set i (O.lst l.dropLast)).length (upd H1 (η1 i) (.lst vs.dropLast)) := by
    rw [List.length_set]
    exact w
  exact p1 η1 _ _ st (rh1.write hi ⟨_, rfl, rvs.dropLast⟩) (by show RV _ _ (h1.set i _).length _ _ _; rw [List.length_set]; exact RV.step w _ _ ru)
/-- x.pop(i) -/
def popAtE (mo me : E1 D) : E1 D := fun σ h => (mo σ h).bind fun x h1 => if isL h1 x then (me σ h1).bind fun y h2 => getR (lstAt h2 x) fun p => match y with
  | .int i => if decide (-9223372036854775808 ≤ i ∧ i < 9223372036854775808) then getR (seqIndex? i p.2.length) fun k => getR p.2[k]? fun z => .ok z (h2.set p.1 (.lst (p.2.eraseIdx k))) else .stuck
  | _ => .stuck else .stuck
theorem e_popAt (ho : PE X o (tE ⟨X.K, jt⟩ W mo)) (he : PE X e (tE ⟨X.K, jt⟩ W mb)) (hbase : attributeBase o "pop" X.env (eval o X.env) = eval o X.env := by rfl)
    (hfew : ((backTo cpos (starEach [e] X.env)).all (fun x => !x.1) && (backToKw cpos (keywordEach [] X.env)).all (fun x => x.1.isSome) && decide (([e] : List Expr).length + ([] : List Keyword).length + (if ([] : List Keyword).isEmpty then 0 else 1) < 30)) = true := by rfl)
    (hline : (apos.endLine == cpos.line) = true := by rfl) (hs : starEach [e] X.env = (false, eval e X.env) :: starEach [] X.env := by rfl) (hplain : (backTo cpos (starEach [] X.env)).any (·.1) = false := by rfl) :
    PE X (.Call (.Attribute o "pop" apos) [e] [] cpos) (tE ⟨X.K, jt⟩ W (popAtE mo mb)) := pe_of (pe_bm PySem.F.plainAttrs_list PySem.F.slot_list_pop PySem.F.type_list_pop mt_popAt ho (pa_cons he pa_nil hs) hbase hfew hline hs hplain) fun σV H Q hq => by
  obtain ⟨B, σ, h, η, rs, rh, p⟩ := hq
  refine ⟨B, σ, h, η, rs, rh, Post.sq p fun x h1 η1 H1 v _ s rh1 rv p1 => ?_⟩
  obtain ⟨hl, p1⟩ := post_ifL p1
  refine ⟨tyV_list rh1 rv hl, ?_⟩
  refine ⟨B, σ, h1, η1, rs.step s, rh1, Post.sq p1 fun y h2 η2 H2 u _ s2 rh2 ru p2 => ?_⟩
  obtain ⟨⟨i, l⟩, e1, p2⟩ := post_getR p2
  obtain ⟨hi, ev, vs, eH, rvs⟩ := lstAt_ok rh2 (RV.step s2 _ _ rv) e1
  cases y with
  | int j =>
    obtain ⟨hc, p2⟩ := post_ifL p2
    have hc' := of_decide_eq_true hc
    obtain ⟨k, ek, p2⟩ := post_getR p2
    obtain ⟨z, ez, p2⟩ := post_getR p2
    obtain ⟨w, ew, rw'⟩ := rvs.get ez
    have eu : u = .int j := ru.intS
    have st0 : Stp η2 h2.length H2 η2 h2.length (upd H2 (η2 i) (.lst (vs.eraseIdx k))) := Stp.write hi
    have st : Stp η2 h2.length H2 η2 (h2.set i (O.lst (l.eraseIdx k))).length (upd H2 (η2 i) (.lst (vs.eraseIdx k))) := by
      rw [List.length_set]
      exact st0
    refine ⟨η2 i, vs, j, k, w, ev, by rw [eu], eH, by omega, by omega, by rw [← RVs.length _ _ rvs]; exact ek, ew, p2 η2 _ _ st (rh2.write hi ⟨_, rfl, rvs.eraseIdx k⟩) ?_⟩
    show RV _ _ (h2.set i _).length _ _ _
    rw [List.length_set]
    exact RV.step st0 _ _ rw'
  | _ => exact p2.elim
/-- x * n, x a list -/
def repL (l : List D) (k : Nat) : List D := (List.replicate k l).flatten
theorem RVs.rep {Z : Zt} {η : Nat → Addr} {n : Nat} {H : Hp} {l : List D} {vs : List V} (r : RVs Z η n H l vs) : ∀ k, RVs Z η n H (repL l k) (List.replicate k vs).flatten
  | 0 => RVs.nil
  | k + 1 => by
    unfold repL
    rw [List.replicate_succ, List.replicate_succ, List.flatten_cons, List.flatten_cons]
    exact r.append (RVs.rep r k)
def repN (a b : E1 D) : E1 (List D) := fun σ h => (a σ h).bind fun x h1 => (b σ h1).bind fun y h2 => getR (catOf h2 x) fun l => match y with
  | .int k => if decide (-9223372036854775808 ≤ k ∧ k < 9223372036854775808) && Nat.ble (l.length * k.toNat) 16777216 then .ok (repL l k.toNat) h2 else .stuck
  | _ => .stuck
theorem e_repN (ha : PE X a (tE ⟨X.K, jt⟩ W ma)) (hb : PE X b (tE ⟨X.K, jt⟩ W mb)) : PE X (.BinOp a .Mult b pos) (tN ⟨X.K, jt⟩ W (repN ma mb)) := pe_of (pe_op op_rep ha hb) fun σV H Q hq => by
  obtain ⟨B, σ, h, η, rs, rh, p⟩ := hq
  refine ⟨B, σ, h, η, rs, rh, Post.sq p fun x h1 η1 H1 v _ s rh1 rv p1 => ?_⟩
  refine ⟨B, σ, h1, η1, rs.step s, rh1, Post.sq p1 fun y h2 η2 H2 u _ s2 rh2 ru p2 => ?_⟩
  obtain ⟨l, e1, p2⟩ := post_getR p2
  obtain ⟨q, vs, rfl, hq, rvs⟩ := RV.catS rh2 (RV.step s2 _ _ rv) e1
  cases y with
  | int k =>
    obtain ⟨hc, p2⟩ := post_ifL p2
    obtain ⟨hc1, hc2⟩ := Bool.and_eq_true_iff.mp hc
    have hc' := of_decide_eq_true hc1
    have hz := Nat.le_of_ble_eq_true hc2
    refine ⟨q, k, vs, rfl, ru.intS, hq, by omega, by omega, by rw [← RVs.length _ _ rvs, sizeLine_eq]; exact hz, fun r hr => ?_⟩
    exact p2 η2 _ _ (Stp.new hr) (rh2.new hr) (NewL.mk (s.trans s2) rh2 hr (rvs.rep _))
  | _ => exact p2.elim
end
end RF

set_option maxRecDepth 100000
set_option maxHeartbeats 2000000
/-! RFg: index, tuple(range(n)), dicts, raise, try. -/
namespace RF
open PySem PySem.Spec PyProof.Rows L2
variable {jt : Jt}
section
variable {X : Cx} {W : WX} {a b e o : Expr} {ma mb mo : E1 D} {pos apos cpos p p2 : Pos}
/-! ### index -/
def ixOf (ds : List PyData) (d : PyData) : Option Nat := ds.findIdx? fun z => PyData.eqv z d
theorem ixOf_ok {ds : List PyData} {d : PyData} {j : Nat} (e : ixOf ds d = some j) : ∃ z, ds[j]? = some z ∧ PyData.eqv z d = true ∧ ∀ (m : Nat) (z' : PyData), m < j → ds[m]? = some z' → PyData.eqv z' d = false := by
  unfold ixOf at e
  rw [List.findIdx?_eq_some_iff_getElem] at e
  obtain ⟨hj, h1, h2⟩ := e
  refine ⟨ds[j], List.getElem?_eq_getElem hj, h1, fun m z' hm ez => ?_⟩
  have hl : m < ds.length := Nat.lt_trans hm hj
  rw [List.getElem?_eq_getElem hl] at ez
  cases ez
  have := h2 m hm
  simpa using this
def tyT : D → Bool
  | .tup _ => true
  | _ => false
def indexT (mo me : E1 D) : E1 D := fun σ h => (mo σ h).bind fun x h1 => if tyT x then (me σ h1).bind fun y h2 => getR (toPy h2 y) fun d => match toPy h2 x with
  | some (.tuple ds) => if Nat.ble (min (PyData.depthAll ds) d.depth) 64 then getR (ixOf ds d) fun j => .ok (.int (j : Nat)) h2 else .stuck
  | _ => .stuck else .stuck
theorem e_indexT (hu : X.A.units + 66 < cLine) (ho : PE X o (tE ⟨X.K, jt⟩ W mo)) (he : PE X e (tE ⟨X.K, jt⟩ W mb)) (hbase : attributeBase o "index" X.env (eval o X.env) = eval o X.env := by rfl)
    (hfew : ((backTo cpos (starEach [e] X.env)).all (fun x => !x.1) && (backToKw cpos (keywordEach [] X.env)).all (fun x => x.1.isSome) && decide (([e] : List Expr).length + ([] : List Keyword).length + (if ([] : List Keyword).isEmpty then 0 else 1) < 30)) = true := by rfl)
    (hline : (apos.endLine == cpos.line) = true := by rfl) (hs : starEach [e] X.env = (false, eval e X.env) :: starEach [] X.env := by rfl) (hplain : (backTo cpos (starEach [] X.env)).any (·.1) = false := by rfl) :
    PE X (.Call (.Attribute o "index" apos) [e] [] cpos) (tE ⟨X.K, jt⟩ W (indexT mo mb)) := pe_of (pe_bmT PySem.F.plainAttrs_tuple PySem.F.slot_tuple_index PySem.F.type_tuple_index (mt_indexT hu) ho (pa_cons he pa_nil hs) hbase hfew hline hs hplain) fun σV H Q hq => by
  obtain ⟨B, σ, h, η, rs, rh, p⟩ := hq
  refine ⟨B, σ, h, η, rs, rh, Post.sq p fun x h1 η1 H1 v _ s rh1 rv p1 => ?_⟩
  obtain ⟨hl, p1⟩ := post_ifL p1
  cases x with
  | tup l =>
    have rv0 := rv
    unfold relV RV at rv0
    obtain ⟨q, vs, rfl, nd, rvs⟩ := rv0
    refine ⟨⟨q, rfl, ?_⟩, ?_⟩
    · rcases nd with ⟨u, h1, ⟨o, rfl, ho⟩, _⟩ | nd
      · exact .inl ⟨o, vs, h1, ho⟩
      · exact .inr ⟨vs, nd⟩
    refine ⟨B, σ, h1, η1, rs.step s, rh1, Post.sq p1 fun y h2 η2 H2 u _ s2 rh2 ru p2 => ?_⟩
    obtain ⟨d, ed, p2⟩ := post_getR p2
    obtain ⟨hd1, hd2⟩ := toPy_ok rh2 ru ed
    cases ex : toPy h2 (.tup l) with
    | none => rw [ex] at p2; exact p2.elim
    | some px =>
      rw [ex] at p2
      obtain ⟨hx1, hx2⟩ := toPy_ok rh2 (RV.step s2 _ _ rv) ex
      cases px with
      | tuple ds =>
        obtain ⟨hb, p2⟩ := post_ifL p2
        obtain ⟨j, ej, p2⟩ := post_getR p2
        obtain ⟨z, z1, z2, z3⟩ := ixOf_ok ej
        exact ⟨q, u, d, ds, j, z, rfl, rfl, hx1, hd1, by unfold PyData.canLay0 at hx2; exact hx2, hd2, Nat.le_of_ble_eq_true hb, z1, z2, z3, p2 η2 H2 _ Stp.refl rh2 RV.int⟩
      | _ => exact p2.elim
  | _ => cases hl
def isLs (h : AH) (x : D) : Bool := (lstOf h x).isSome
def indexL (mo me : E1 D) : E1 D := fun σ h => (mo σ h).bind fun x h1 => if isLs h1 x then (me σ h1).bind fun y h2 => getR (toPy h2 y) fun d => match toPy h2 x with
  | some (.list ds) => if decide (PyData.depth (.list ds) ≤ 64) && decide (d.depth ≤ 64) then getR (ixOf ds d) fun j => .ok (.int (j : Nat)) h2 else .stuck
  | _ => .stuck else .stuck
theorem e_indexL (hu : X.A.units + 65 < cLine) (ho : PE X o (tE ⟨X.K, jt⟩ W mo)) (he : PE X e (tE ⟨X.K, jt⟩ W mb)) (hbase : attributeBase o "index" X.env (eval o X.env) = eval o X.env := by rfl)
    (hfew : ((backTo cpos (starEach [e] X.env)).all (fun x => !x.1) && (backToKw cpos (keywordEach [] X.env)).all (fun x => x.1.isSome) && decide (([e] : List Expr).length + ([] : List Keyword).length + (if ([] : List Keyword).isEmpty then 0 else 1) < 30)) = true := by rfl)
    (hline : (apos.endLine == cpos.line) = true := by rfl) (hs : starEach [e] X.env = (false, eval e X.env) :: starEach [] X.env := by rfl) (hplain : (backTo cpos (starEach [] X.env)).any (·.1) = false := by rfl) :
    PE X (.Call (.Attribute o "index" apos) [e] [] cpos) (tE ⟨X.K, jt⟩ W (indexL mo mb)) := pe_of (pe_bm PySem.F.plainAttrs_list PySem.F.slot_list_index PySem.F.type_list_index (mt_indexD hu) ho (pa_cons he pa_nil hs) hbase hfew hline hs hplain) fun σV H Q hq => by
  obtain ⟨B, σ, h, η, rs, rh, p⟩ := hq
  refine ⟨B, σ, h, η, rs, rh, Post.sq p fun x h1 η1 H1 v _ s rh1 rv p1 => ?_⟩
  obtain ⟨hl, p1⟩ := post_ifL p1
  obtain ⟨l, el⟩ := Option.isSome_iff_exists.mp hl
  obtain ⟨q, vs, rfl, hq, rvs⟩ := RV.lstS rh1 rv el
  refine ⟨.inl ⟨rfl, vs, hq⟩, ?_⟩
  refine ⟨B, σ, h1, η1, rs.step s, rh1, Post.sq p1 fun y h2 η2 H2 u _ s2 rh2 ru p2 => ?_⟩
  obtain ⟨d, ed, p2⟩ := post_getR p2
  obtain ⟨hd1, hd2⟩ := toPy_ok rh2 ru ed
  cases ex : toPy h2 x with
  | none => rw [ex] at p2; exact p2.elim
  | some px =>
    rw [ex] at p2
    obtain ⟨hx1, hx2⟩ := toPy_ok rh2 (RV.step s2 _ _ rv) ex
    cases px with
    | list ds =>
      obtain ⟨hb, p2⟩ := post_ifL p2
      obtain ⟨hb1, hb2⟩ := Bool.and_eq_true_iff.mp hb
      obtain ⟨j, ej, p2⟩ := post_getR p2
      obtain ⟨z, z1, z2, z3⟩ := ixOf_ok ej
      exact ⟨q, u, d, ds, j, z, rfl, rfl, hx1, hd1, by unfold SeqAt.shaped; rw [hx2, hb1]; rfl, by unfold SeqAt.shaped; rw [hd2, hb2]; rfl, z1, z2, z3, p2 η2 H2 _ Stp.refl rh2 RV.int⟩
    | _ => exact p2.elim
/-! ### tuple(range(n)) -/
theorem pe_tupRgF {e : Expr} {te : L2.St → Hp → (Int → Int → Hp → Prop) → Prop} (hc : X.calm = true) (hg : Gl X "tuple") (hm : X.mg "tuple" = none) (he : PRg X e te) (na : starEach [e] X.env = (false, eval e X.env) :: starEach [] X.env := by rfl) :
    PE X (.Call (.Name "tuple" p) [e] [] pos) (fun σ H Q => te σ H fun a b H1 => RgOk a b ∧ FT H1 (rgV a b) Q) := by
  refine ⟨fun pins s σ H Q I h => ?_⟩
  refine Call_ (ld_blt I hg hm boot_tuple (PyProof.Rows.callWith_type1 (args_cons (thn (he pins s σ H _ I h) fun x s1 ⟨r, a, b, t, u, v, H1, ex, hr, I1, ok, q⟩ => args_nil ?_) na) na))
  subst ex
  obtain ⟨b1, b2, b3, b4, b5⟩ := ok
  refine call_tuple_range (n := (b - a).toNat) (I1.ok.hd hc) hr (small_one b1 b2 b3 b4) (rangeSize_nat a b) b5 fun h' tk acc hk hi => ?_
  have I2 : Inv X pins σ H1 { s1 with heap := h', toks := tk } := I1.kept hk
  have := laidT (its := acc.toList) (t' := tk) I2 (by rw [rgV_length, sizeLine_eq]; omega) (vals_rg hi) q
  rw [Array.toArray_toList] at this
  exact this
def tupRgE (m : E1 D) : E1 D := fun σ h => (m σ h).bind fun d h1 => match d with
  | .int n => if decide (0 ≤ n ∧ n ≤ 16777216) then .ok (.tup (rangeL 0 n.toNat)) h1 else .stuck
  | _ => .stuck
theorem rgV_rel {Z : Zt} {η : Nat → Addr} {n : Nat} {H : Hp} : ∀ (lo : Int) (l : List Nat), RVs Z η n H (l.map fun (i : Nat) => D.int (lo + (i : Int))) (l.map fun (i : Nat) => V.int (lo + (i : Int)))
  | lo, [] => RVs.nil
  | lo, i :: l => RVs.cons RV.int (rgV_rel lo l)
theorem e_tupRg (hm : X.mg "tuple" = none) (hm2 : X.mg "range" = none) (ha : PE X a (tE ⟨X.K, jt⟩ W ma)) (hc : X.calm = true := by rfl) (hg : Gl X "tuple" := by rfl) (hg2 : Gl X "range" := by rfl) (na : starEach [a] X.env = (false, eval a X.env) :: starEach [] X.env := by rfl) (na2 : starEach [.Call (.Name "range" p2) [a] [] cpos] X.env = (false, eval (.Call (.Name "range" p2) [a] [] cpos) X.env) :: starEach [] X.env := by rfl) :
    PE X (.Call (.Name "tuple" p) [.Call (.Name "range" p2) [a] [] cpos] [] pos) (tE ⟨X.K, jt⟩ W (tupRgE ma)) := pe_of (pe_tupRgF hc hg hm (prg_1 hg2 hm2 ha na) na2) fun σV H Q hq => by
  obtain ⟨B, σ, h, η, rs, rh, p⟩ := hq
  refine ⟨B, σ, h, η, rs, rh, Post.sq p fun x h1 η1 H1 v _ s rh1 rv p1 => ?_⟩
  cases x with
  | int n =>
    obtain ⟨hb, p1⟩ := post_ifL p1
    have hb' := of_decide_eq_true hb
    refine ⟨n, rv.intS, RgOk.of_le (by omega) (by omega) (by omega) (by omega), post_tup rh1 ?_ p1⟩
    unfold rgV rangeL
    rw [Int.sub_zero]
    exact rgV_rel 0 _
  | _ => exact p1.elim
/-! ### dicts -/
def keyOf : D → Option Key
  | .int i => some (.inl i)
  | .str x => some (.inr x)
  | _ => none
theorem keyOf_ok {Z : Zt} {η : Nat → Addr} {n : Nat} {H : Hp} {d : D} {v : V} {k : Key} (r : RV Z η n H d v) (e : keyOf d = some k) : v = kV k := by
  cases d with
  | int i => cases e; exact r.intS
  | str i => cases e; exact r.strS
  | _ => cases e
def putD (kvs : List (Key × D)) (k : Key) (v : D) : List (Key × D) := if (kvs.any fun kv => decide (kv.1 = k)) = true then kvs.map (fun kv => if kv.1 = k then (kv.1, v) else kv) else kvs ++ [(k, v)]
def getD' (kvs : List (Key × D)) (k : Key) : Option D := (kvs.find? fun kv => decide (kv.1 = k)).map (·.2)
def mergeD (kvs more : List (Key × D)) : List (Key × D) := more.foldl (fun acc kv => putD acc kv.1 kv.2) kvs
section
variable {Z : Zt} {η : Nat → Addr} {n : Nat} {H : Hp}
theorem RKs.nil : RKs Z η n H [] [] := by unfold RKs; rfl
theorem RKs.cons {k : Key} {d : D} {v : V} {l : List (Key × D)} {vs : List (Key × V)} (r : RV Z η n H d v) (rs : RKs Z η n H l vs) : RKs Z η n H ((k, d) :: l) ((k, v) :: vs) := by unfold RKs; exact ⟨v, vs, rfl, r, rs⟩
theorem RKs.append : ∀ {l l' : List (Key × D)} {vs vs' : List (Key × V)}, RKs Z η n H l vs → RKs Z η n H l' vs' → RKs Z η n H (l ++ l') (vs ++ vs')
  | [], l', vs, vs', r, r' => by unfold RKs at r; rw [r]; exact r'
  | (k, d) :: l, l', vs, vs', r, r' => by
    unfold RKs at r
    obtain ⟨v, r0, rfl, r1, r2⟩ := r
    exact RKs.cons r1 (RKs.append r2 r')
theorem RKs.length : ∀ {l : List (Key × D)} {vs : List (Key × V)}, RKs Z η n H l vs → l.length = vs.length
  | [], vs, r => by unfold RKs at r; rw [r]; rfl
  | (k, d) :: l, vs, r => by
    unfold RKs at r
    obtain ⟨v, r0, rfl, r1, r2⟩ := r
    rw [List.length_cons, List.length_cons, RKs.length r2]
theorem RKs.any : ∀ {l : List (Key × D)} {vs : List (Key × V)} (k : Key), RKs Z η n H l vs → (l.any fun kv => decide (kv.1 = k)) = (vs.any fun kv => decide (kv.1 = k))
  | [], vs, k, r => by unfold RKs at r; rw [r]; rfl
  | (k', d) :: l, vs, k, r => by
    unfold RKs at r
    obtain ⟨v, r0, rfl, r1, r2⟩ := r
    rw [List.any_cons, List.any_cons, RKs.any k r2]
theorem RKs.mapPut {k : Key} {d : D} {v : V} (rv : RV Z η n H d v) : ∀ {l : List (Key × D)} {vs : List (Key × V)}, RKs Z η n H l vs → RKs Z η n H (l.map fun kv => if kv.1 = k then (kv.1, d) else kv) (vs.map fun kv => if kv.1 = k then (kv.1, v) else kv)
  | [], vs, r => by unfold RKs at r; rw [r]; exact RKs.nil
  | (k', d') :: l, vs, r => by
    unfold RKs at r
    obtain ⟨v', r0, rfl, r1, r2⟩ := r
    rw [List.map_cons, List.map_cons]
    by_cases hk : k' = k
    · simp only [hk, if_true]
      exact RKs.cons rv (RKs.mapPut rv r2)
    · simp only [hk, if_false]
      exact RKs.cons r1 (RKs.mapPut rv r2)
theorem RKs.put {k : Key} {d : D} {v : V} {l : List (Key × D)} {vs : List (Key × V)} (r : RKs Z η n H l vs) (rv : RV Z η n H d v) : RKs Z η n H (putD l k d) (putK vs k v) := by
  unfold putD putK
  rw [r.any k]
  split
  · exact RKs.mapPut rv r
  · exact r.append (RKs.cons rv RKs.nil)
theorem RKs.merge : ∀ {more : List (Key × D)} {mvs : List (Key × V)} {l : List (Key × D)} {vs : List (Key × V)}, RKs Z η n H more mvs → RKs Z η n H l vs → RKs Z η n H (mergeD l more) (mergeK vs mvs)
  | [], mvs, l, vs, r, rl => by unfold RKs at r; rw [r]; exact rl
  | (k, d) :: more, mvs, l, vs, r, rl => by
    unfold RKs at r
    obtain ⟨v, r0, rfl, r1, r2⟩ := r
    show RKs Z η n H (mergeD (putD l k d) more) (mergeK (putK vs k v) r0)
    exact RKs.merge r2 (rl.put r1)
theorem RKs.get {k : Key} : ∀ {l : List (Key × D)} {vs : List (Key × V)}, RKs Z η n H l vs → (getD' l k = none ∧ valV vs k = none) ∨ ∃ d v, getD' l k = some d ∧ valV vs k = some v ∧ RV Z η n H d v
  | [], vs, r => by unfold RKs at r; rw [r]; exact .inl ⟨rfl, rfl⟩
  | (k', d) :: l, vs, r => by
    unfold RKs at r
    obtain ⟨v, r0, rfl, r1, r2⟩ := r
    by_cases hk : k' = k
    · refine .inr ⟨d, v, ?_, ?_, r1⟩
      · simp [getD', hk]
      · simp [valV, hk]
    · rcases RKs.get (k := k) r2 with ⟨h1, h2⟩ | ⟨d', v', h1, h2, h3⟩
      · refine .inl ⟨?_, ?_⟩
        · simpa [getD', List.find?_cons, hk] using h1
        · simpa [valV, List.find?_cons, hk] using h2
      · refine .inr ⟨d', v', ?_, ?_, h3⟩
        · simpa [getD', List.find?_cons, hk] using h1
        · simpa [valV, List.find?_cons, hk] using h2
end
/-- an empty dict -/
def newD (kvs : List (Key × D)) : E1 D := fun _ h => .ok (.ref h.length) (h ++ [.dct kvs])
theorem post_adopt {Z : Zt} {W : WX} {σV : L2.St} {η0 η : Nat → Addr} {n0 : Nat} {H0 H : Hp} {h : AH} {ob : O} {u : HO} {q : Addr} {Q : VK} (s : Stp η0 n0 H0 η h.length H) (rh : RH (Z.bar q) η h H) (hn : ∀ i, i < h.length → η i ≠ q) (h0 : H0 q = none) (hu : H q = some u) (r : RO (Z.bar q) η h.length H ob u)
    (p : Post Z W σV η0 n0 H0 (relV Z) (.ok (.ref h.length) (h ++ [ob])) Q) : Q (.ref q) H := by
  have s2 : Stp η0 n0 H0 (ext η h.length q) (h ++ [ob]).length H := by
    rw [List.length_append]
    exact s.adopt h0
  refine p (ext η h.length q) H _ s2 (rh.adopt hn hu r) ?_
  unfold relV RV
  rw [ext_at, List.length_append]
  exact ⟨rfl, Nat.lt_succ_self _⟩
theorem e_dict0 : PE X (.Dict [] [] pos) (tE ⟨X.K, jt⟩ W (newD [])) := pe_of pe_dnewK fun σV H Q hq => by
  obtain ⟨B, σ, h, η, rs, rh, p⟩ := hq
  exact fun q hq => post_adopt (ob := .dct []) (Stp.new hq) (rh.newB hq) (rh.none_ne hq) hq upd_same ⟨[], rfl, RKs.nil⟩ p
def pairsE : List (E1 D × E1 D) → E1 (List (Key × D))
  | [] => fun _ h => .ok [] h
  | (mk, mv) :: r => fun σ h => (mk σ h).bind fun k h1 => (mv σ h1).bind fun v h2 => getR (keyOf k) fun kk => (pairsE r σ h2).bind fun l h3 => .ok ((kk, v) :: l) h3
def dispD (ps : List (E1 D × E1 D)) : E1 D := fun σ h => (pairsE ps σ h).bind fun kvs h1 => if Nat.ble kvs.length 15 then .ok (.ref h1.length) (h1 ++ [.dct (mergeD [] kvs)]) else .stuck
def trsOf (J : Kj) (W : WX) (ps : List (E1 D × E1 D)) : List (TE × TE) := ps.map fun p => (tE J W p.1, tE J W p.2)
def relK (Z : Zt) : (Nat → Addr) → AH → Hp → List (Key × D) → List (Key × V) → Prop := fun η h H d v => RKs Z η h.length H d v
theorem pairs_of {K : PySem.W.Frag} {W : WX} : ∀ (ps : List (E1 D × E1 D)) (B : Addr → Prop) (σ : SL) (σV : L2.St) (h : AH) (η : Nat → Addr) (H : Hp) (G : List (V × V) → Hp → Prop), RS ⟨K, B, jt⟩ η h.length H σ σV → RH ⟨K, B, jt⟩ η h H →
    Post ⟨K, B, jt⟩ W σV η h.length H (relK ⟨K, B, jt⟩) (pairsE ps σ h) (fun kvs H' => G (kvs.map fun kv => (kV kv.1, kv.2)) H') → tPairs (trsOf ⟨K, jt⟩ W ps) σV H G
  | [], B, σ, σV, h, η, H, G, rs, rh, p => p η H [] Stp.refl rh RKs.nil
  | (mk, mv) :: r, B, σ, σV, h, η, H, G, rs, rh, p => by
    refine ⟨B, σ, h, η, rs, rh, Post.sq p fun k h1 η1 H1 x _ s1 rh1 rx p1 => ?_⟩
    refine ⟨B, σ, h1, η1, rs.step s1, rh1, Post.sq p1 fun v h2 η2 H2 y _ s2 rh2 ry p2 => ?_⟩
    obtain ⟨kk, ek, p2⟩ := post_getR p2
    have ex := keyOf_ok (RV.step s2 _ _ rx) ek
    subst ex
    refine pairs_of r B σ σV h2 η2 H2 _ ((rs.step s1).step s2) rh2 (Post.sq p2 fun l h3 η3 H3 kvs _ s3 rh3 rk p3 => ?_)
    exact p3 η3 H3 ((kk, y) :: kvs) Stp.refl rh3 (RKs.cons (RV.step s3 _ _ ry) rk)
theorem e_disp {keys : List (Option Expr)} {values : List Expr} {ps : List (E1 D × E1 D)} (hp : PPs X pos keys values (trsOf ⟨X.K, jt⟩ W ps)) (hall : keys.all (·.isSome) = true := by rfl) (hl : keys.length = values.length := by rfl) (h0 : keys ≠ [] := by exact fun z => nomatch z) (h15 : keys.length ≤ 15 := by decide) :
    PE X (.Dict keys values pos) (tE ⟨X.K, jt⟩ W (dispD ps)) := pe_of (pe_disp hp hall hl h0 h15) fun σV H Q hq => by
  obtain ⟨B, σ, h, η, rs, rh, p⟩ := hq
  intro q hq
  refine pairs_of ps ((⟨X.K, B, jt⟩ : Zt).bar q).B σ σV h η _ _ ((Trn.new hq).s rs) (rh.newB hq) ?_
  unfold dispD at p
  cases ep : pairsE ps σ h with
  | stuck => rw [ep] at p; exact p.elim
  | exc x h1 =>
    rw [ep] at p
    intro η' H' cls dd s rh' rx
    refine p η' H' cls dd ((Stp.new hq).trans s) (RH.unbar (p := q) (Z := ⟨X.K, B, jt⟩) rh') ?_
    exact RX.to (Trn.unbar (p := q) (Z := ⟨X.K, B, jt⟩)) rx fun a ws _ e1 e2 e3 => ⟨e1, e2, fun z => e3 (.inr z)⟩
  | ok kvs h1 =>
    rw [ep] at p
    intro η1 H1 kvV s rh1 rk
    replace p : Post ⟨X.K, B, jt⟩ W σV η h.length H (relV ⟨X.K, B, jt⟩) (if Nat.ble kvs.length 15 = true then .ok (.ref h1.length) (h1 ++ [.dct (mergeD [] kvs)]) else .stuck) Q := p
    obtain ⟨hb, p⟩ := post_ifL p
    have hn : ∀ i, i < h.length → η i ≠ q := rh.none_ne hq
    have hn1 : ∀ i, i < h1.length → η1 i ≠ q := s.apart upd_same hn
    refine ⟨s.keep _ _ upd_same hn, kvV, rfl, by rw [← rk.length]; exact Nat.le_of_ble_eq_true hb, ?_⟩
    refine post_adopt (ob := .dct (mergeD [] kvs)) (((Stp.new hq).trans s).updNew hq) (RH.updB (Z := ⟨X.K, B, jt⟩) rh1 hn1) hn1 hq upd_same ⟨_, rfl, ?_⟩ p
    exact Trn.updB.ks _ _ (RKs.merge rk RKs.nil)
/-- d[k] -/
def dctOf (h : AH) : D → Option (List (Key × D))
  | .ref i => match h[i]? with
    | some (.dct l) => some l
    | _ => none
  | _ => none
theorem dctOf_ok {Z : Zt} {η : Nat → Addr} {h : AH} {H : Hp} {d : D} {v : V} {l : List (Key × D)} (rh : RH Z η h H) (r : RV Z η h.length H d v) (e : dctOf h d = some l) : ∃ q vs, v = .ref q ∧ H q = some (.dK vs) ∧ RKs Z η h.length H l vs := by
  cases d with
  | ref j =>
    unfold RV at r
    simp only [dctOf] at e
    cases ei : h[j]? with
    | none => simp only [ei] at e; cases e
    | some ob =>
      simp only [ei] at e
      cases ob with
      | dct l' =>
        cases e
        obtain ⟨u, eu, vs, e2, rs⟩ := rh.obj j _ ei
        subst e2
        exact ⟨η j, vs, r.1, eu, rs⟩
      | _ => cases e
  | _ => cases e
def dgetE (mo mi : E1 D) : E1 D := fun σ h => (mo σ h).bind fun x h1 => (mi σ h1).bind fun y h2 => getR (dctOf h2 x) fun kvs => getR (keyOf y) fun k => getR (getD' kvs k) fun d => .ok d h2
theorem e_dget (hu : X.A.units + 1 < cLine) (ha : PE X a (tE ⟨X.K, jt⟩ W ma)) (hb : PE X b (tE ⟨X.K, jt⟩ W mb)) (hs : NoSl b := by first | exact fun _ _ => rfl | exact fun _ => rfl | intros; rfl) : PE X (.Subscript a b pos) (tE ⟨X.K, jt⟩ W (dgetE ma mb)) := pe_of (pe_dget hu ha hb hs) fun σV H Q hq => by
  obtain ⟨B, σ, h, η, rs, rh, p⟩ := hq
  refine ⟨B, σ, h, η, rs, rh, Post.sq p fun x h1 η1 H1 v _ s rh1 rv p1 => ?_⟩
  refine ⟨B, σ, h1, η1, rs.step s, rh1, Post.sq p1 fun y h2 η2 H2 u _ s2 rh2 ru p2 => ?_⟩
  obtain ⟨kvs, ek, p2⟩ := post_getR p2
  obtain ⟨k, ey, p2⟩ := post_getR p2
  obtain ⟨d, ed, p2⟩ := post_getR p2
  obtain ⟨q, vs, rfl, hq, rk⟩ := dctOf_ok rh2 (RV.step s2 _ _ rv) ek
  have eu := keyOf_ok ru ey
  subst eu
  rcases RKs.get (k := k) rk with ⟨h1, _⟩ | ⟨d', v', h1, h2, h3⟩
  · rw [ed] at h1; cases h1
  · rw [ed] at h1
    cases h1
    refine ⟨q, v', rfl, ?_, p2 η2 H2 _ Stp.refl rh2 h3⟩
    rw [← h2]
    exact DGet.k hq
end
end RF

set_option maxRecDepth 100000
set_option maxHeartbeats 2000000
/-! RFh: raise, try. -/
namespace RF
open PySem PySem.Spec PyProof.Rows L2
variable {jt : Jt}
/-- an own class over ValueError, without an __init__ -/
structure XV (K : PySem.W.Frag) (mg : Str → Option Value) (x : Str) : Prop where
  g : mg x = some (.ref (He.ga K x))
  q : PySem.W.excIn K (He.ga K x) He.veBase "ValueError.__new__" = true
  k : PySem.W.keepIn K (.ref (He.ga K x)) = true
  s : PySem.W.subIn K (.ref (He.ga K x)) (.type "BaseException") = some true
  t : PySem.W.typeIn K (.ref (He.ga K x)) = some (.type "type")
def raiseV (x : Str) : S1 := fun σ h => .exc ⟨x, []⟩ σ h
def raiseF (m : E1 D) : S1 := fun σ h => (m σ h).toS σ fun d h1 => .exc ⟨"Fallen", [("word", d)]⟩ σ h1
section
variable {X : Cx} {W : WX} {a e : Expr} {ma : E1 D} {pos p p2 pos2 : Pos}
theorem s_raiseV {x m : Str} {j : Nat} (T : XV X.K X.mg x) (tk : Takes X W) (hc : X.calm = true := by rfl) (hg : Gl X x := by rfl) (hdb : (x == ("__debug__" : Str)) = false := by decide) :
    PS X (.Raise (some (.Call (.Name x p) [.Constant (.str m) j p2] [] pos)) none pos2) (tS ⟨X.K, jt⟩ W (raiseV x)) := ps_of (ps_raise hc tk (pmk_own PySem.F.excBase_ValueError T.q T.g T.k (raises_own T.s T.t) hg hdb)) fun Dn σV H hq => by
  obtain ⟨B, σ, h, η, rs, rh, p⟩ := hq
  exact p η H _ _ σV Stp.refl rh ⟨rfl, .inl ⟨rfl, rfl⟩⟩ rs
theorem s_raiseF {fI : Addr} {k : Nat} (T : RFX.Fal X.K X.mg (He.ga X.K "Fallen") fI) (hr : Room k X.A) (tk : Takes X W) (ha : PE X a (tE ⟨X.K, jt⟩ W ma)) (hc : X.calm = true := by rfl) (hg : Gl X "Fallen" := by rfl)
    (he : starEach (a :: []) X.env = (false, eval a X.env) :: starEach [] X.env := by rfl) (hpl : (backTo pos (starEach [] X.env)).any (·.1) = false := by rfl) :
    PS X (.Raise (some (.Call (.Name "Fallen" p) [a] [] pos)) none pos2) (tS ⟨X.K, jt⟩ W (raiseF ma)) := ps_of (ps_raise hc tk (pmk_fal T hr (pa_cons ha pa_nil he) hg he hpl)) fun Dn σV H hq => by
  obtain ⟨B, σ, h, η, rs, rh, p⟩ := hq
  refine ⟨B, σ, h, η, rs, rh, postS_of rs p fun d h1 η1 H1 v _ s rh1 rv p1 => ?_⟩
  refine ⟨v, rfl, fun q hq => p1 η1 _ _ _ σV (Stp.new hq) (rh1.new hq) ⟨rfl, .inr ⟨q, _, rfl, upd_same, rh1.none_ne hq, rh1.nb hq, ?_⟩⟩ ((rs.step s).step (Stp.new hq))⟩
  unfold RFs
  exact ⟨v, [], rfl, RV.step (Stp.new hq) _ _ rv, by unfold RFs; rfl⟩
end
/-! ### try -/
def SR.unset (i : Nat) (r : SR) : SR := match r with
  | .nx σ h => .nx (σ.set i none) h
  | .bk σ h => .bk (σ.set i none) h
  | .ct σ h => .ct (σ.set i none) h
  | .rt d h => .rt d h
  | _ => .stuck
def SR.noexc (r : SR) : SR := match r with
  | .exc _ _ _ => .stuck
  | r => r
/-- except C as n (mt: which classes are caught) -/
def tryAs (i : Nat) (mt : List (Str × Bool)) (body : S1) (suite : Addr → Exn → S1) : S1 := fun σ h => match body σ h with
  | .exc x σ1 h1 => (match mt.lookup x.cls with
    | some true => (suite 0 x (σ1.set i (some (.cst (.ref 0)))) h1).unset i
    | some false => .exc x σ1 h1
    | none => .stuck)
  | r => r
def tryOnly (mt : List (Str × Bool)) (body : S1) (suite : Exn → S1) : S1 := fun σ h => match body σ h with
  | .exc x σ1 h1 => (match mt.lookup x.cls with
    | some true => (suite x σ1 h1).noexc
    | some false => .exc x σ1 h1
    | none => .stuck)
  | r => r
/-- what is known of an except clause's class -/
structure Mt (K : PySem.W.Frag) (c : Value) (mt : List (Str × Bool)) : Prop where
  m : ∀ x b, mt.lookup x = some b → PySem.W.exmOne K (.ref (He.ga K x)) c = some b
theorem mt_nil {K : PySem.W.Frag} {c : Value} : Mt K c [] := ⟨fun x b e => nomatch e⟩
theorem mt_cons {K : PySem.W.Frag} {c : Value} {x : Str} {b : Bool} {mt : List (Str × Bool)} (h : PySem.W.exmOne K (.ref (He.ga K x)) c = some b) (r : Mt K c mt) : Mt K c ((x, b) :: mt) := ⟨fun y d e => by
  simp only [List.lookup] at e
  cases q : (y == x) with
  | true =>
    rw [q] at e
    cases e
    rw [beq_iff_eq.mp q]
    exact h
  | false => rw [q] at e; exact r.m y d e⟩
theorem pss_ex {X : Cx} {l : List Stmt} {α : Type} {t : α → TS} (h : ∀ x, PSs X l (t x)) : PSs X l (fun D σ H => ∃ x, t x D σ H) := ⟨fun pins s σ H D I ⟨x, q⟩ => (h x).run pins s σ H D I q⟩
section
variable {X : Cx} {W : WX} {x n : Str} {i : Nat} {body suite : List Stmt} {b₀ : Stmt} {np pos pos' : Pos} {mb : S1} {mt : List (Str × Bool)} {c : Value}
theorem s_tryAs {ms : Addr → Exn → S1} (hN : X.N.Nodup) (hc : Names X x c) (hmt : Mt X.K c mt) (tk : Takes X W)
    (hb : ∀ (W : WX) (pn : List (Addr × Obj)) (xe : Value → Shared → Prop), Takes (X.tr pn xe) W → PassesOwn (model X.prog X.w) X.A X.env xe → PSs (X.tr pn xe) body (tS ⟨X.K, jt⟩ W mb))
    (hsu : ∀ (a : Addr) (oe : Obj) (cls : Value) (d : Option Addr) (pn : List (Addr × Obj)) (y : Exn), Zc cls d oe → (∃ vs, oe.data = .fields vs) → PSs (X.suite a ((a, oe) :: pn)) (b₀ :: suite) (tS ⟨X.K, some (cls, d, y)⟩ W0 (ms a y)))
    (hpar : ∀ (a : Addr) (y : Exn) (σ : SL) (h : AH), (ms a y (σ.set i (some (.cst (.ref a)))) h).unset i = (ms 0 y (σ.set i (some (.cst (.ref 0)))) h).unset i)
    (hi : X.N[i]? = some n := by rfl) (hln : X.env.kindOf n = some .local := by rfl) (hs : X.stack = X.env :: X.outer := by rfl) (hf : X.env.frame = some X.env.locals := by rfl) :
    PS X (.Try body [.ExceptHandler (some (.Name x np)) (some n) (b₀ :: suite) pos'] [] [] pos) (tS ⟨X.K, jt⟩ W (tryAs i mt mb ms)) :=
  ps_of (ps_try_as (tb := fun W => tS ⟨X.K, jt⟩ W mb) (ts := fun a cls d D σ H => ∃ y, tS ⟨X.K, some (cls, d, y)⟩ W0 (ms a y) D σ H) hs hf hN hi hln hc tk hb (fun a oe cls d pn hz hd => pss_ex fun y => hsu a oe cls d pn y hz hd)) fun Dn σV H hq => by
  obtain ⟨B, σ, h, η, rs, rh, p⟩ := hq
  refine ⟨B, σ, h, η, rs, rh, ?_⟩
  unfold tryAs at p
  cases eb : mb σ h with
  | nx σ1 h1 => rw [eb] at p; exact p
  | rt d h1 => rw [eb] at p; exact p
  | bk σ1 h1 => rw [eb] at p; exact p
  | ct σ1 h1 => rw [eb] at p; exact p
  | stuck => rw [eb] at p; exact p
  | exc y σ1 h1 =>
    rw [eb] at p
    intro η' H' cls dd σV' s rh' rx rs'
    replace p : PostS ⟨X.K, B, jt⟩ W η h.length H (match mt.lookup y.cls with
      | some true => (ms 0 y (σ1.set i (some (.cst (.ref 0)))) h1).unset i
      | some false => .exc y σ1 h1
      | none => .stuck) Dn := p
    cases em : mt.lookup y.cls with
    | none => rw [em] at p; exact p.elim
    | some b =>
      rw [em] at p
      have hex := hmt.m _ _ em
      rw [← rx.1] at hex
      refine ⟨b, hex, fun hb => ?_, fun hb => ?_⟩
      · subst hb
        intro a ha
        refine ⟨y, B, σ1.set i (some (.cst (.ref a))), h1, η', (Trn.rej.s rs').set (by unfold RV; rfl), rh'.rej fun cls' d' y' e => ?_, ?_⟩
        · cases e
          exact rx.rej
        · replace p : PostS ⟨X.K, B, jt⟩ W η h.length H ((ms 0 y (σ1.set i (some (.cst (.ref 0)))) h1).unset i) Dn := p
          rw [← hpar a y σ1 h1] at p
          replace p := PostS.from s p
          have up : ∀ {η2 : Nat → Addr} {h2 : AH} {H2 : Hp}, Stp η' h1.length H' η2 h2.length H2 → RH ⟨X.K, B, some (cls, dd, y)⟩ η2 h2 H2 → RH ⟨X.K, B, jt⟩ η2 h2 H2 := fun s2 rh2 => rh2.rej fun cls d x e => (rh'.jx cls d x e).step s2
          cases em2 : ms a y (σ1.set i (some (.cst (.ref a)))) h1 with
          | nx σ2 h2 => rw [em2] at p; exact fun η2 H2 σV2 s2 rh2 rs2 => p η2 H2 _ s2 (up s2 rh2) (RS.unset (Trn.rej.s rs2))
          | bk σ2 h2 => rw [em2] at p; exact fun η2 H2 σV2 s2 rh2 rs2 => p η2 H2 _ s2 (up s2 rh2) (RS.unset (Trn.rej.s rs2))
          | ct σ2 h2 => rw [em2] at p; exact fun η2 H2 σV2 s2 rh2 rs2 => p η2 H2 _ s2 (up s2 rh2) (RS.unset (Trn.rej.s rs2))
          | rt d h2 => rw [em2] at p; exact fun η2 H2 v s2 rh2 rv => p η2 H2 _ s2 (up s2 rh2) (Trn.rej.v _ _ rv)
          | exc _ _ _ => rw [em2] at p; exact p.elim
          | stuck => rw [em2] at p; exact p.elim
      · subst hb
        exact p η' H' cls dd σV' s rh' rx rs'
theorem s_tryOnly {ms : Exn → S1} (hc : Names X x c) (hmt : Mt X.K c mt) (tk : Takes X W)
    (hb : ∀ (W : WX) (pn : List (Addr × Obj)) (xe : Value → Shared → Prop), Takes (X.tr pn xe) W → PassesOwn (model X.prog X.w) X.A X.env xe → PSs (X.tr pn xe) body (tS ⟨X.K, jt⟩ W mb))
    (hsu : ∀ (a : Addr) (oe : Obj) (cls : Value) (d : Option Addr) (pn : List (Addr × Obj)) (y : Exn), Zc cls d oe → (∃ vs, oe.data = .fields vs) → PSs (X.suite a ((a, oe) :: pn)) (b₀ :: suite) (tS ⟨X.K, some (cls, d, y)⟩ W0 (ms y)))
    (hs : X.stack = X.env :: X.outer := by rfl) (hf : X.env.frame = some X.env.locals := by rfl) :
    PS X (.Try body [.ExceptHandler (some (.Name x np)) none (b₀ :: suite) pos'] [] [] pos) (tS ⟨X.K, jt⟩ W (tryOnly mt mb ms)) :=
  ps_of (ps_try_only (tb := fun W => tS ⟨X.K, jt⟩ W mb) (ts := fun a cls d D σ H => ∃ y, tS ⟨X.K, some (cls, d, y)⟩ W0 (ms y) D σ H) hs hf hc tk hb (fun a oe cls d pn hz hd => pss_ex fun y => hsu a oe cls d pn y hz hd)) fun Dn σV H hq => by
  obtain ⟨B, σ, h, η, rs, rh, p⟩ := hq
  refine ⟨B, σ, h, η, rs, rh, ?_⟩
  unfold tryOnly at p
  cases eb : mb σ h with
  | nx σ1 h1 => rw [eb] at p; exact p
  | rt d h1 => rw [eb] at p; exact p
  | bk σ1 h1 => rw [eb] at p; exact p
  | ct σ1 h1 => rw [eb] at p; exact p
  | stuck => rw [eb] at p; exact p
  | exc y σ1 h1 =>
    rw [eb] at p
    intro η' H' cls dd σV' s rh' rx rs'
    replace p : PostS ⟨X.K, B, jt⟩ W η h.length H (match mt.lookup y.cls with
      | some true => (ms y σ1 h1).noexc
      | some false => .exc y σ1 h1
      | none => .stuck) Dn := p
    cases em : mt.lookup y.cls with
    | none => rw [em] at p; exact p.elim
    | some b =>
      rw [em] at p
      have hex := hmt.m _ _ em
      rw [← rx.1] at hex
      refine ⟨b, hex, fun hb => ?_, fun hb => ?_⟩
      · subst hb
        intro a ha
        refine ⟨y, B, σ1, h1, η', Trn.rej.s rs', rh'.rej fun cls' d' y' e => ?_, ?_⟩
        · cases e
          exact rx.rej
        · replace p : PostS ⟨X.K, B, jt⟩ W η h.length H (ms y σ1 h1).noexc Dn := p
          replace p := PostS.from s p
          have up : ∀ {η2 : Nat → Addr} {h2 : AH} {H2 : Hp}, Stp η' h1.length H' η2 h2.length H2 → RH ⟨X.K, B, some (cls, dd, y)⟩ η2 h2 H2 → RH ⟨X.K, B, jt⟩ η2 h2 H2 := fun s2 rh2 => rh2.rej fun cls d x e => (rh'.jx cls d x e).step s2
          cases em2 : ms y σ1 h1 with
          | nx σ2 h2 => rw [em2] at p; exact fun η2 H2 σV2 s2 rh2 rs2 => p η2 H2 _ s2 (up s2 rh2) (Trn.rej.s rs2)
          | bk σ2 h2 => rw [em2] at p; exact fun η2 H2 σV2 s2 rh2 rs2 => p η2 H2 _ s2 (up s2 rh2) (Trn.rej.s rs2)
          | ct σ2 h2 => rw [em2] at p; exact fun η2 H2 σV2 s2 rh2 rs2 => p η2 H2 _ s2 (up s2 rh2) (Trn.rej.s rs2)
          | rt d h2 => rw [em2] at p; exact fun η2 H2 v s2 rh2 rv => p η2 H2 _ s2 (up s2 rh2) (Trn.rej.v _ _ rv)
          | exc _ _ _ => rw [em2] at p; exact p.elim
          | stuck => rw [em2] at p; exact p.elim
      · subst hb
        exact p η' H' cls dd σV' s rh' rx rs'
end
/-! ### a field of what is caught -/
def xfE (a : Addr) (y : Exn) (cn f : Str) (m : E1 D) : E1 D := fun σ h => (m σ h).bind fun d h1 => match d with
  | .cst (.ref b) => if b = a ∧ y.cls = cn then getR (y.fs.lookup f) fun d => .ok d h1 else .stuck
  | _ => .stuck
theorem RFs.lookup {Z : Zt} {η : Nat → Addr} {n : Nat} {H : Hp} {f : Str} {d : D} : ∀ {l : List (Str × D)} {ws : List (Str × V)}, RFs Z η n H l ws → l.lookup f = some d → ∃ v, ws.lookup f = some v ∧ RV Z η n H d v
  | [], ws, r, e => by cases e
  | (g, d') :: l, ws, r, e => by
    unfold RFs at r
    obtain ⟨v, r0, rfl, r1, r2⟩ := r
    simp only [List.lookup] at e ⊢
    cases q : (f == g) with
    | true => rw [q] at e; cases e; exact ⟨v, rfl, r1⟩
    | false => rw [q] at e; exact RFs.lookup r2 e
theorem e_xf {X : Cx} {W : WX} {a : Addr} {oe : Obj} {cls : Value} {d : Option Addr} {pn : List (Addr × Obj)} {y : Exn} {cn f : Str} {e : Expr} {me : E1 D} {pos : Pos} (T : XfC X.K (He.ga X.K cn)) (hno : PySem.W.findIn X.K (.ref (He.ga X.K cn)) f = some none) (hz : Zc cls d oe) (hf : ∃ vs, oe.data = .fields vs)
    (he : PE (X.suite a ((a, oe) :: pn)) e (tE ⟨X.K, some (cls, d, y)⟩ W me)) (hb : attributeBase e f X.env (eval e X.env) = eval e X.env := by rfl) :
    PE (X.suite a ((a, oe) :: pn)) (.Attribute e f pos) (tE ⟨X.K, some (cls, d, y)⟩ W (xfE a y cn f me)) := pe_of (pe_xf T hno hz hf he hb) fun σV H Q hq => by
  obtain ⟨B, σ, h, η, rs, rh, p⟩ := hq
  refine ⟨B, σ, h, η, rs, rh, Post.sq p fun x h1 η1 H1 v _ s rh1 rv p1 => ?_⟩
  cases x with
  | cst c =>
    cases c with
    | ref b =>
      replace p1 : Post ⟨X.K, B, some (cls, d, y)⟩ W σV η1 h1.length H1 (relV ⟨X.K, B, some (cls, d, y)⟩) (if b = a ∧ y.cls = cn then getR (y.fs.lookup f) fun d => .ok d h1 else .stuck) Q := p1
      by_cases hc : b = a ∧ y.cls = cn
      · rw [if_pos hc] at p1
        obtain ⟨hba, hcn⟩ := hc
        obtain ⟨dd, ed, p1⟩ := post_getR p1
        have jx := rh1.jx cls d y rfl
        obtain ⟨jx1, jx2⟩ := jx
        rcases jx2 with ⟨j1, _⟩ | ⟨q, ws, j1, j2, j3, j4, j5⟩
        · rw [j1] at ed; cases ed
        · obtain ⟨v', ev, rv'⟩ := j5.lookup ed
          exact ⟨by rw [rv.cstS, hba], by rw [jx1, hcn], q, ws, v', j1, j2, ev, p1 η1 H1 _ Stp.refl rh1 rv'⟩
      · rw [if_neg hc] at p1; exact p1.elim
    | _ => exact p1.elim
  | _ => exact p1.elim
def xfO (y : Exn) (cn f : Str) (i : Nat) (σ : SL) : Option D := if i < σ.length ∧ y.cls = cn then y.fs.lookup f else none
def ofOpt (o : Option D) (h : AH) : R D := match o with
  | some d => .ok d h
  | none => .stuck
theorem xfE_nf {a : Addr} {y : Exn} {cn f : Str} {i : Nat} {σ : SL} {h : AH} : xfE a y cn f (varE i) (σ.set i (some (.cst (.ref a)))) h = ofOpt (xfO y cn f i σ) h := by
  unfold xfE varE xfO
  by_cases hi : i < σ.length
  · rw [List.getElem?_set_self hi]
    by_cases hc : y.cls = cn
    · simp only [R.bind, hi, hc, and_self, if_true]
      cases y.fs.lookup f <;> rfl
    · simp [R.bind, hi, hc, ofOpt]
  · rw [List.getElem?_eq_none (by rw [List.length_set]; omega)]
    simp [R.bind, hi, ofOpt]
end RF

set_option maxRecDepth 100000
set_option maxHeartbeats 2000000
/-! RFi: enumerate over a tuple. -/
namespace RFX
open PySem PyProof.Rows
set_option maxHeartbeats 1000000 in
theorem meets_enumT {v : Value} {o : Obj} {H : Heap → Prop} (B : Begins v o H) :
    Meets (Builtin.«enumerate.__new__» ⟨[.type "enumerate", v], []⟩) (fun _ R s => H s.heap ∧
      R (.ok (.ret (.ref (s.heap.push o).objs.size))) { s with heap := (s.heap.push o).push { cls := .type "enumerate", data := .fields #[.none, .bool false, .ref s.heap.objs.size, rawInt 0, .none, .none] } }) :=
  .of_wp fun prog w A R s h => by
    obtain ⟨hp, g, d, tk, os⟩ := s; obtain ⟨h1, h⟩ := h
    have hsub := sub_enumerate
    have q1 : ∀ {A' : Around} {E : Value → Shared → Prop} {Q : Value → Shared → Prop}, Q (.ref hp.objs.size) ⟨hp.push o, g, d, tk, os⟩ → wpAny (model prog w) A' (pyIter v) Q E ⟨hp, g, d, tk, os⟩ :=
      fun q => B.iter prog w _ _ ⟨hp, g, d, tk, os⟩ _ h1 q
    wp_walk using q1
    refine wpAny_stack_any fun st => wpAny_pure ?_
    split
    · rename_i c _ _ _ _ _
      cases (c == Value.type "enumerate")
      · wp_walk using q1
        exact ⟨_, rfl, h⟩
      · wp_walk using q1
        exact ⟨_, rfl, h⟩
    · wp_walk using q1
      exact ⟨_, rfl, h⟩
theorem enumT_begins {prog : Program} {w : World} {A : Around} {E : Value → Shared → Prop} {s : Shared} {v : Value} {o : Obj} {H : Heap → Prop} {Q : Value → Shared → Prop} (B : Begins v o H) (h1 : H s.heap)
    (h : ∀ h', IsEnum h' (s.heap.objs.size + 1) s.heap.objs.size 0 .none → h'.get? s.heap.objs.size = some o → h'.objs.size = s.heap.objs.size + 2 →
      (∀ b o, s.heap.get? b = some o → h'.get? b = some o) → Q (.ref (s.heap.objs.size + 1)) { s with heap := h' }) :
    wpAny (model prog w) A (call (.type "enumerate") [v]) Q E s := by
  refine callType_new F.called_enumerate (by decide) (F.typeCall_enumerate_1 _) (F.newCall_enumerate_1 _) (fun obj => F.args_object_init_2 obj _) F.entry_enumerate_new (meets_enumT B) ⟨h1, ?_⟩
  have hz : (s.heap.push o).objs.size = s.heap.objs.size + 1 := Heap.size_push ..
  show _ ∧ _
  rw [hz]
  have he : IsEnum ((s.heap.push o).push { cls := .type "enumerate", data := .fields #[.none, .bool false, .ref s.heap.objs.size, rawInt 0, .none, .none] }) (s.heap.objs.size + 1) s.heap.objs.size 0 .none := by
    have := Heap.get?_push_size (s.heap.push o) (o := { cls := .type "enumerate", data := .fields #[.none, .bool false, .ref s.heap.objs.size, rawInt 0, .none, .none] }) rfl
    rw [hz] at this; exact this
  exact ⟨⟨_, he, rfl⟩, h _ he (Heap.get?_push_of_some _ (Heap.get?_push_size _ B.free)) (by rw [Heap.size_push, hz]) fun b o x => Heap.get?_push_of_some _ (Heap.get?_push_of_some _ x)⟩
end RFX
namespace RF
open PySem PySem.Spec PyProof.Rows L2
variable {jt : Jt}
/-- the tuple at a, each item in a new pair -/
def IteT (K : PySem.W.Frag) (a : Addr) : It :=
  ⟨fun i H => ∃ (xs : List V) (x : V), SqT K H a xs ∧ xs[i]? = some x, fun i H v H' => ∃ T x, v = .ref T ∧ H T = none ∧ H' = upd H T (.tup [.int (i : Nat), x]) ∧ ∀ xs, SqT K H a xs → xs[i]? = some x, fun i H => ∃ xs : List V, SqT K H a xs ∧ xs.length ≤ i⟩
theorem iter_ne {h : Heap} {it a : Addr} {i : Nat} {its : Array Value} (h1 : h.IsTupleIter it a i) (h2 : h.IsTuple a its) : a ≠ it := fun e => by
  obtain ⟨o, ho, hc, _⟩ := h1
  obtain ⟨o', ho', hc', _⟩ := h2
  rw [e, ho] at ho'
  cases ho'
  rw [hc] at hc'
  exact absurd hc' (by decide)
theorem turn_enumT {P : Program} {w : World} {K : PySem.W.Frag} {elts : List Expr} {kk : Nat} {tpos : Pos} (a e it : Addr) :
    Turn P w K (.Tuple elts kk tpos) (IteT K a) [e, it] e (fun i h => (∃ old, IsEnum h e it ((i : Nat) : Int) old) ∧ (h.IsTupleIter it a i ∧ a ≠ e) ∧ e ≠ it) where
  mem := by simp
  obj := fun i h st b hb => by
    obtain ⟨⟨old, he⟩, ⟨⟨o, ho, hc, hd⟩, _⟩, _⟩ := st
    have e' : b = e ∨ b = it := by simpa using hb
    rcases e' with z | z
    · rw [z]; exact ⟨_, he, fun v q => nomatch q⟩
    · rw [z]; exact ⟨o, ho, fun v q => by rw [hd] at q; cases q⟩
  keep := fun i h h' st k => let ⟨⟨old, he⟩, hi, hne⟩ := st; ⟨⟨old, k e (by simp) _ he⟩, ⟨hi.1.at fun o q => k it (by simp) o q, hi.2⟩, hne⟩
  item := by
    intro X hP hw hK hc i pins s σ H E I hf st hg
    subst hP hw hK
    obtain ⟨⟨old, he⟩, ⟨hit, hae⟩, hne⟩ := st
    obtain ⟨xs, x, hq, hx⟩ := hg
    obtain ⟨its, rv, p, hz⟩ := I.tuple hq
    obtain ⟨u, hu, ru⟩ := rv.get hx
    have hel : e < s.heap.objs.size := Heap.lt_size he
    have hil : it < s.heap.objs.size := by obtain ⟨_, q, _⟩ := hit; exact Heap.lt_size q
    have pt : s.heap.IsTuple a its.toArray := p
    have hai : a ≠ it := iter_ne hit pt
    have hlt : i < its.toArray.size := by
      rw [List.size_toArray]
      exact (List.getElem?_eq_some_iff.mp hu).1
    have hin : X.A.in1.handled = none := I.ok.hd hc
    have DD : Draws X.prog X.w X.A.in1 it [it, a] its.toArray.size (fun i v => its.toArray[i]? = some v) (fun i h => h.IsTupleIter it a i ∧ h.IsTuple a its.toArray) := Draws.tuple hin it a hai its.toArray
    have hnf : e ∉ [it, a] := by simp; exact ⟨hne, Ne.symm hae⟩
    refine wpAny_pyNext_enum_itemD DD he ⟨hit, pt⟩ hlt hne hnf fun x' h' tk hPx ho hst hT hsz hk => ?_
    have ex' : x' = u := by
      have hPx' : its.toArray[i]? = some x' := hPx
      rw [List.getElem?_toArray, hu] at hPx'
      exact (Option.some.inj hPx').symm
    subst ex'
    refine ⟨_, rfl, wpAny_letOwnedTupleGo_enum (s := { s with heap := h', toks := tk + 1 }) ho fun h'' he' sb => ?_⟩
    have hT2 : h''.get? s.heap.objs.size = some { cls := .type "tuple", data := .seq #[.int i tk, x'] } := (sb.2 _ (Nat.ne_of_gt hel)).trans hT
    have new : ObjOk X.prog X.w (upd H s.heap.objs.size (.tup [.int (i : Nat), x])) h'' s.heap.objs.size (.tup [.int (i : Nat), x]) :=
      ⟨by show 2 ≤ sizeLine; decide, [.int i tk, x'], .cons ⟨_, rfl⟩ (.cons ru .nil), ⟨_, hT2, rfl, _, rfl⟩⟩
    have I1 : Inv X pins σ (upd H s.heap.objs.size (.tup [.int (i : Nat), x])) { s with heap := h'', toks := tk + 1 } :=
      I.turnedNew (ch := [e, it]) (fun b ob hb q => (sb.2 b (fun z => hb (by simp [z]))).trans (hk b ob (fun z => hb (by simp [z])) (fun z => hb (by simp [z])) q)) hf (Nat.le_refl _) new
    refine ⟨.ref s.heap.objs.size, _, I1, rfl, ⟨_, x, rfl, I.hok.fresh (Nat.le_refl _), rfl, fun ys hy => by rw [I.tuple_inj hy hq]; exact hx⟩, ⟨⟨x', ?_⟩, ⟨hst.1.at fun o q => (sb.2 it (Ne.symm hne)).trans q, hae⟩, hne⟩, fun b hb => ?_⟩
    · have e1 : ((i + 1 : Nat) : Int) = (i : Int) + 1 := by omega
      rw [e1]; exact he'
    · have hb' : b < s.heap.objs.size := by
        have e' : b = e ∨ b = it := by simpa using hb
        rcases e' with z | z
        · rw [z]; exact hel
        · rw [z]; exact hil
      rw [upd_ne (Nat.ne_of_lt hb')]
      exact (hf b hb).1
  done := by
    intro X hP hw hK hc i pins s σ H E I hf st hg
    subst hP hw hK
    obtain ⟨⟨old, he⟩, ⟨hit, hae⟩, hne⟩ := st
    obtain ⟨xs, hq, hx⟩ := hg
    obtain ⟨its, rv, p, hz⟩ := I.tuple hq
    obtain ⟨f0, f1, f2, f3, f4, f5⟩ := hf it (by simp)
    have hl := rv.length
    have pt : s.heap.IsTuple a its.toArray := p
    have hai : a ≠ it := iter_ne hit pt
    have hh : X.A.handled = none := I.ok.hd hc
    have hT : s.TypeIs (.ref e) "enumerate" := ⟨_, he, rfl⟩
    unfold pyNext
    refine wpAny_bind (wpAny_attempt (wpAny_callSpecial?_slot (name := Str.ofString "__next__") hT F.slot_enumerate_next
      (wpAny_call_entry F.slot_enumerate_next hT F.entry_enumerate_next ?_ (F.args_enumerate_next_1 _))))
    show wpAny _ _ (field (.ref e) 2 >>= _) _ _ _
    refine wpAny_bind (wpAny_field he rfl (x := .ref it) rfl ?_)
    refine wpAny_bind (wpAny_nextOf_tuple_end hh hit pt (by simp; omega) fun h' x he' hx' => ?_)
    obtain ⟨o, ho, hc⟩ := hx'
    refine wpAny_bind (wpAny_isInstance (T := "StopIteration") (b := true) ⟨o, ho, hc⟩ isSubtype_stop ?_)
    exact wpAny_pure ⟨rfl, I.turned (t' := s.toks) (fun b o hb q => he' b o hb q) f0 f1 f3 f4 f5⟩
  self := fun A i s Q E st h => let ⟨⟨_, he⟩, _⟩ := st; wpAny_pyIter_enum he h
theorem pi_enumT {X : Cx} {e : Expr} {ta : TA} {p pos tpos : Pos} {elts : List Expr} {kk : Nat} (hg : Gl X "enumerate") (hm : X.mg "enumerate" = none) (ha : PA X [e] ta) (hs : starEach [e] X.env = [(false, eval e X.env)] := by rfl) :
    PI X (.Tuple elts kk tpos) (.Call (.Name "enumerate" p) [e] [] pos) (fun σ H R => ta σ H fun vs H1 => ∃ a xs, vs = [.ref a] ∧ ((SqL X.K H1 a xs ∧ R (Ite X.K a) H1) ∨ (SqT X.K H1 a xs ∧ R (IteT X.K a) H1))) := by
  refine ⟨fun pins s σ H R I h => ?_⟩
  refine Call_ (ld_blt I hg hm boot_enumerate (PyProof.Rows.callWith_type1 (thn (ha.run pos pins s σ H _ I h) fun us s1 ⟨vs, H1, I1, r1, q1⟩ => ?_) hs rfl))
  obtain ⟨a, xs, ex, hq⟩ := q1
  subst ex
  cases r1 with
  | cons r rr =>
    cases rr
    cases r
    rcases hq with ⟨hq, q⟩ | ⟨hq, q⟩
    · obtain ⟨its, rv, p', hz⟩ := I1.list hq
      refine call_enumerate_list p'.isList fun h' he hit hsz hk => wpAny_pyIter_enum he ?_
      have I2 : Inv X pins σ H1 { s1 with heap := h' } := I1.kept (t' := s1.toks) hk
      refine ⟨s1.heap.objs.size + 1, [s1.heap.objs.size + 1, s1.heap.objs.size], _, _, H1, rfl, I2, turn_enum a (s1.heap.objs.size + 1) s1.heap.objs.size, ⟨⟨.none, he⟩, hit, Nat.succ_ne_self _⟩, fun b hb => ?_, q⟩
      have e' : b = s1.heap.objs.size + 1 ∨ b = s1.heap.objs.size := by simpa using hb
      have hle : s1.heap.objs.size ≤ b := by
        rcases e' with z | z
        · rw [z]; exact Nat.le_add_right _ _
        · rw [z]; exact Nat.le_refl _
      exact I1.fpOk hle (I1.hok.fresh hle)
    · obtain ⟨its, rv, p', hz⟩ := I1.tuple hq
      have pt : s1.heap.IsTuple a its.toArray := p'
      have hal : a < s1.heap.objs.size := by obtain ⟨_, q, _⟩ := pt; exact Heap.lt_size q
      refine RFX.enumT_begins (begins_tuple a its.toArray) pt fun h' he hit hsz hk => wpAny_pyIter_enum he ?_
      have I2 : Inv X pins σ H1 { s1 with heap := h' } := I1.kept (t' := s1.toks) hk
      refine ⟨s1.heap.objs.size + 1, [s1.heap.objs.size + 1, s1.heap.objs.size], _, _, H1, rfl, I2, turn_enumT a (s1.heap.objs.size + 1) s1.heap.objs.size, ⟨⟨.none, he⟩, ⟨⟨_, hit, rfl, rfl⟩, Nat.ne_of_lt (Nat.lt_succ_of_lt hal)⟩, Nat.succ_ne_self _⟩, fun b hb => ?_, q⟩
      have e' : b = s1.heap.objs.size + 1 ∨ b = s1.heap.objs.size := by simpa using hb
      have hle : s1.heap.objs.size ≤ b := by
        rcases e' with z | z
        · rw [z]; exact Nat.le_add_right _ _
        · rw [z]; exact Nat.le_refl _
      exact I1.fpOk hle (I1.hok.fresh hle)
def enumE' (m : E1 D) : E1 (List D) := fun σ h => (m σ h).bind fun d h' => match d with
  | .lst l => .ok (enumL 0 l) h'
  | .frz l => .ok (enumL 0 l) h'
  | .tup l => .ok (enumL 0 l) h'
  | _ => .stuck
theorem i_enum' {X : Cx} {W : WX} {e : Expr} {p pos tpos : Pos} {elts : List Expr} {kk : Nat} {m : E1 D} (hm : X.mg "enumerate" = none) (he : PE X e (tE ⟨X.K, jt⟩ W m)) (hg : Gl X "enumerate" := by rfl) (hs : starEach [e] X.env = [(false, eval e X.env)] := by rfl) : PI X (.Tuple elts kk tpos) (.Call (.Name "enumerate" p) [e] [] pos) (tI ⟨X.K, jt⟩ W (enumE' m)) := ⟨fun pins s σV H R I hq => (pi_enumT hg hm (pa_cons he pa_nil hs) hs).run pins s σV H R I (by
  obtain ⟨B, σ, h, η, rs, rh, p⟩ := hq
  refine ⟨B, σ, h, η, rs, rh, Post.sq p fun d h1 η1 H1 v em s rh1 rv p1 => ?_⟩
  have gen : ∀ a vs l, v = .ref a → (∀ η n H, Stp η1 h1.length H1 η n H → SqL X.K H a vs) → RVs ⟨X.K, B, jt⟩ η1 h1.length H1 l vs → Post ⟨X.K, B, jt⟩ W σV η1 h1.length H1 (YL ⟨X.K, B, jt⟩) (.ok (enumL 0 l) h1) R → ∃ a xs, [v] = [V.ref a] ∧ ((SqL X.K H1 a xs ∧ R (Ite X.K a) H1) ∨ (SqT X.K H1 a xs ∧ R (IteT X.K a) H1)) := fun a vs l ev hx rs p1 => by
    refine ⟨a, vs, by rw [ev], .inl ⟨hx _ _ _ Stp.refl, p1 η1 H1 _ Stp.refl rh1 fun Z' η h H i s t rh => ?_⟩⟩
    have hs := hx _ _ _ s
    refine ⟨fun d e => ?_, fun hi => ⟨vs, hs, by rw [← RVs.length _ _ rs, ← enumL_length l 0]; exact hi⟩⟩
    obtain ⟨x, ex, rfl⟩ := enumL_get l 0 i d e
    obtain ⟨w, ew, rw'⟩ := (t.vs l vs rs).get ex
    refine ⟨⟨vs, w, hs, ew⟩, fun y H' hy => ?_⟩
    obtain ⟨T, x', rfl, nT, rfl, hx'⟩ := hy
    have := hx' vs hs
    rw [ew] at this
    cases this
    refine ⟨Stp.new nT, rh.new nT, ?_⟩
    unfold RV
    refine ⟨T, _, rfl, .inl ⟨_, upd_same, rfl, rh.none_ne nT, rh.nb nT⟩, RVs.cons ?_ (RVs.cons (RV.step (Stp.new nT) _ _ rw') RVs.nil)⟩
    rw [Nat.zero_add]
    exact RV.int
  cases d with
  | lst l =>
    unfold relV RV at rv
    obtain ⟨a, vs, rfl, q, rs⟩ := rv
    exact gen a vs l rfl (fun η n H s => .inl (.inl (q.step s).lst)) rs p1
  | frz l =>
    unfold relV RV at rv
    obtain ⟨a, vs, rfl, q, rs⟩ := rv
    exact gen a vs l rfl (fun η n H s => (q.step s).sqF) rs p1
  | tup l =>
    unfold relV RV at rv
    obtain ⟨a, vs, rfl, q, rs⟩ := rv
    have hx : ∀ η n H, Stp η1 h1.length H1 η n H → SqT X.K H a vs := fun η n H s => (q.step s).sqT
    refine ⟨a, vs, rfl, .inr ⟨hx _ _ _ Stp.refl, p1 η1 H1 _ Stp.refl rh1 fun Z' η h H i s t rh => ?_⟩⟩
    have hs := hx _ _ _ s
    refine ⟨fun d e => ?_, fun hi => ⟨vs, hs, by rw [← RVs.length _ _ rs, ← enumL_length l 0]; exact hi⟩⟩
    obtain ⟨x, ex, rfl⟩ := enumL_get l 0 i d e
    obtain ⟨w, ew, rw'⟩ := (t.vs l vs rs).get ex
    refine ⟨⟨vs, w, hs, ew⟩, fun y H' hy => ?_⟩
    obtain ⟨T, x', rfl, nT, rfl, hx'⟩ := hy
    have := hx' vs hs
    rw [ew] at this
    cases this
    refine ⟨Stp.new nT, rh.new nT, ?_⟩
    unfold RV
    refine ⟨T, _, rfl, .inl ⟨_, upd_same, rfl, rh.none_ne nT, rh.nb nT⟩, RVs.cons ?_ (RVs.cons (RV.step (Stp.new nT) _ _ rw') RVs.nil)⟩
    rw [Nat.zero_add]
    exact RV.int
  | _ => exact p1.elim)⟩
end RF

set_option maxRecDepth 100000
set_option maxHeartbeats 2000000
/-! RFj: a, b = x, y; defs by their names; the rules as a printer wants them. -/
namespace RF
open PySem PySem.Spec PyProof.Rows L2
variable {jt : Jt}
def par2 (i j : Nat) (m : E1 (List D)) : S1 := fun σ h => (m σ h).toS σ fun l h1 => match l with
  | [x, y] => .nx ((σ.set i (some x)).set j (some y)) h1
  | _ => .stuck
def par3 (i j k : Nat) (m : E1 (List D)) : S1 := fun σ h => (m σ h).toS σ fun l h1 => match l with
  | [x, y, z] => .nx (((σ.set i (some x)).set j (some y)).set k (some z)) h1
  | _ => .stuck
section
variable {X : Cx} {W : WX}
theorem s_par2 {i j : Nat} {x y : Str} {a b : Expr} {ms : E1 (List D)} {px py pt pos : Pos} {kt k2 pt2} (hN : X.N.Nodup) (ha : PA X [a, b] (tA ⟨X.K, jt⟩ W ms)) (hij : i ≠ j := by decide) (hi : X.N[i]? = some x := by rfl) (hj : X.N[j]? = some y := by rfl)
    (hx : X.env.scope.names.lookup x = some .local := by rfl) (hy : X.env.scope.names.lookup y = some .local := by rfl) (hw : swappedStores [.Tuple [.Name x px, .Name y py] kt pt] (.Tuple [a, b] k2 pt2) X.env = pure (some [x, y]) := by rfl)
    (hs : swapsWithSole [.Tuple [.Name x px, .Name y py] kt pt] (.Tuple [a, b] k2 pt2) pos.line X.env = pure false := by rfl) (hc : X.calm = true := by rfl) :
    PS X (.Assign [.Tuple [.Name x px, .Name y py] kt pt] (.Tuple [a, b] k2 pt2) pos) (tS ⟨X.K, jt⟩ W (par2 i j ms)) := ps_of (ps_par hc hN hi hj hij hx hy ha hw hs) fun Dn σV H hq => by
  obtain ⟨B, σ, h, η, rs, rh, p⟩ := hq
  refine ⟨B, σ, h, η, rs, rh, postS_of rs p fun l h1 η1 H1 vs _ s rh1 rvs p1 => ?_⟩
  match l, rvs, p1 with
  | [d1, d2], rvs, p1 =>
    unfold relVs RVs RVs RVs at rvs
    obtain ⟨v1, _, rfl, r1, v2, _, rfl, r2, rfl⟩ := rvs
    exact ⟨v1, v2, rfl, p1 η1 H1 _ Stp.refl rh1 (((rs.step s).set r1).set r2)⟩
  | [], _, p1 => exact p1.elim
  | [_], _, p1 => exact p1.elim
  | _ :: _ :: _ :: _, _, p1 => exact p1.elim
theorem s_par3 {i j k : Nat} {x y z : Str} {a b c : Expr} {ms : E1 (List D)} {px py pz pt pos : Pos} {kt k2 pt2} (hN : X.N.Nodup) (ha : PA X [a, b, c] (tA ⟨X.K, jt⟩ W ms)) (hij : i ≠ j := by decide) (hik : i ≠ k := by decide) (hjk : j ≠ k := by decide) (hi : X.N[i]? = some x := by rfl) (hj : X.N[j]? = some y := by rfl) (hk : X.N[k]? = some z := by rfl)
    (hx : X.env.scope.names.lookup x = some .local := by rfl) (hy : X.env.scope.names.lookup y = some .local := by rfl) (hz : X.env.scope.names.lookup z = some .local := by rfl) (hw : swappedStores [.Tuple [.Name x px, .Name y py, .Name z pz] kt pt] (.Tuple [a, b, c] k2 pt2) X.env = pure (some [x, y, z]) := by rfl)
    (hs : swapsWithSole [.Tuple [.Name x px, .Name y py, .Name z pz] kt pt] (.Tuple [a, b, c] k2 pt2) pos.line X.env = pure false := by rfl) (hc : X.calm = true := by rfl) :
    PS X (.Assign [.Tuple [.Name x px, .Name y py, .Name z pz] kt pt] (.Tuple [a, b, c] k2 pt2) pos) (tS ⟨X.K, jt⟩ W (par3 i j k ms)) := ps_of (ps_par3 hc hN hi hj hk hij hik hjk hx hy hz ha hw hs) fun Dn σV H hq => by
  obtain ⟨B, σ, h, η, rs, rh, p⟩ := hq
  refine ⟨B, σ, h, η, rs, rh, postS_of rs p fun l h1 η1 H1 vs _ s rh1 rvs p1 => ?_⟩
  match l, rvs, p1 with
  | [d1, d2, d3], rvs, p1 =>
    unfold relVs RVs RVs RVs RVs at rvs
    obtain ⟨v1, _, rfl, r1, v2, _, rfl, r2, v3, _, rfl, r3, rfl⟩ := rvs
    exact ⟨v1, v2, v3, rfl, p1 η1 H1 _ Stp.refl rh1 ((((rs.step s).set r1).set r2).set r3)⟩
  | [], _, p1 => exact p1.elim
  | [_], _, p1 => exact p1.elim
  | [_, _], _, p1 => exact p1.elim
  | _ :: _ :: _ :: _ :: _, _, p1 => exact p1.elim
end
def FdAt (K : PySem.W.Frag) (f : Addr) (fd : FuncData) : Prop := ∃ oc od osl, K.lookup f = some ⟨oc, od, .func fd, osl⟩
/-- the def of a name does what mf does, at level k -/
def Fk (P : Program) (w : World) (K : PySem.W.Frag) (mg : Str → Option Value) (base : Heap) (k : Nat) (x : Str) (ps : List Str) (mf : List D → AH → R D) : Prop :=
  ∃ f fd, mg x = some (.ref f) ∧ PySem.W.keepIn K (.ref f) = true ∧ Binds K fd ps [] ∧ FdAt K f fd ∧ FnOk P w K mg base (L2.CX P w) k f fd ps (spM K ps.length mf)
/-- .. its text -/
def Dk (K : PySem.W.Frag) (mg : Str → Option Value) (x : Str) (st : Stmt) (ps : List Str) : Prop := ∃ f fd, mg x = some (.ref f) ∧ FunD K x x (defArgs st) (defBody st) (defScope st) [] [] f fd ∧ Binds K fd ps []
section
variable {P : Program} {w : World} {K : PySem.W.Frag} {mg : Str → Option Value} {base : Heap} {x : Str} {st : Stmt} {ps N : List Str} {k : Nat} {m : S1}
theorem fdAt {f : Addr} {fd : FuncData} {qual : Str} {params : Arguments} {body : List Stmt} {scope : Scope} {dvs : List V} {kws : List (Str × V)} (F : FunD K x qual params body scope dvs kws f fd) : FdAt K f fd := by
  obtain ⟨oc, od, _, _, _, _, _, _, _, osl, _, e, _⟩ := F.ex
  exact ⟨oc, od, osl, e⟩
theorem fk_ok (d : Dk K mg x st ps) (S : FnScope N ps (defScope st))
    (hbody : ∀ (f : Addr) (cdv : Value) (A : Around) (outer : List Env) (s : Shared) (H : Hp) (E : XK), Room k (A.deeper (envOfC x (defScope st) s.heap.objs.size f cdv)) → Takes (cxOf (L2.CX P w) P w K mg base N x (defScope st) f cdv A outer s H E) (WD E) →
      PassesOwn (model P w) (A.deeper (envOfC x (defScope st) s.heap.objs.size f cdv)) (envOfC x (defScope st) s.heap.objs.size f cdv) (cxOf (L2.CX P w) P w K mg base N x (defScope st) f cdv A outer s H E).xe →
      PSs (cxOf (L2.CX P w) P w K mg base N x (defScope st) f cdv A outer s H E) (defBody st) (tS ⟨K, none⟩ (WD E) m)) : Fk P w K mg base (k + 1) x ps (runF N.length m) := by
  obtain ⟨f, fd, g, F, b⟩ := d
  exact ⟨f, fd, g, F.kp, b, fdAt F, fn_ok F S fun cdv A outer s H E hr tk hp => hbody f cdv A outer s H E hr tk hp⟩
theorem fk_stuck (d : Dk K mg x st ps) : Fk P w K mg base k x ps (fun _ _ => .stuck) := by
  obtain ⟨f, fd, g, F, b⟩ := d
  exact ⟨f, fd, g, F.kp, b, fdAt F, fn_stuck⟩
end
section
variable {X : Cx} {W : WX} {k j : Nat} {ps : List Str} {x : Str} {p pos : Pos} {e : Expr} {es : List Expr} {ms : E1 (List D)} {mf : List D → AH → R D}
theorem e_callF (F : Fk X.prog X.w X.K X.mg X.base j x ps mf) (hr : Room k X.A) (hj : j ≤ k) (tk : Takes X W) (ha : PA X (e :: es) (tA ⟨X.K, jt⟩ W ms)) (hn : Len ms ps.length) (hg : Gl X x := by rfl)
    (hdb : (x == ("__debug__" : Str)) = false := by decide) (he : starEach (e :: es) X.env = (false, eval e X.env) :: starEach es X.env := by rfl) (hpl : (backTo pos (starEach es X.env)).any (·.1) = false := by rfl) :
    PE X (.Call (.Name x p) (e :: es) [] pos) (tE ⟨X.K, jt⟩ W (callF mf ms)) := by
  obtain ⟨f, fd, g, kp, b, _, F⟩ := F
  exact e_call F (hr.mono hj) g kp b tk ha hn hg hdb he hpl
theorem e_callF0 (F : Fk X.prog X.w X.K X.mg X.base j x [] mf) (hr : Room k X.A) (hj : j ≤ k) (tk : Takes X W) (hg : Gl X x := by rfl)
    (hdb : (x == ("__debug__" : Str)) = false := by decide) : PE X (.Call (.Name x p) [] [] pos) (tE ⟨X.K, jt⟩ W (fun _ h => mf [] h)) := by
  obtain ⟨f, fd, g, kp, b, _, F⟩ := F
  exact e_call0 F (hr.mono hj) g kp b tk hg hdb
end
section
variable {X : Cx} {W : WX} {k : Nat} {a b c : Expr} {ma mb mc : E1 D} {pos p p2 : Pos}
theorem u64 {A : Around} (hr : Room k A) : A.units + 64 < cLine := by have := hr.un; omega
theorem u65 {A : Around} (hr : Room k A) : A.units + 65 < cLine := by have := hr.un; omega
theorem u66 {A : Around} (hr : Room k A) : A.units + 66 < cLine := by have := hr.un; omega
theorem u1 {A : Around} (hr : Room k A) : A.units + 1 < cLine := by have := hr.un; omega
end
/-! ### a block's names -/
def blkB (N : List Str) (sc scope : Scope) (own : List (Str × Nat)) : Bool := decide (scope.kind = .function) && scope.names.all (fun y => decide (scope.names.lookup y.1 = some y.2)) && own.all (fun p => decide (N[p.2]? = some p.1)) &&
  scope.names.all (fun y => !decide (y.2 = .free) || decide (sc.names.lookup y.1 = some .cell) || decide (sc.names.lookup y.1 = some .free)) && scope.names.all (fun y => !(decide (y.2 = .local) || decide (y.2 = .cell)) || decide (y.1 ∈ own.map (·.1)) || decide (y.1 ∉ N))
theorem blk_of {N : List Str} {sc scope : Scope} {own : List (Str × Nat)} (h : blkB N sc scope own = true) : BlkOk N sc scope own := by
  unfold blkB at h
  simp only [Bool.and_eq_true, List.all_eq_true, decide_eq_true_eq, Bool.or_eq_true, Bool.not_eq_true'] at h
  obtain ⟨⟨⟨⟨h1, h2⟩, h3⟩, h4⟩, h5⟩ := h
  refine ⟨h1, h2, h3, fun y hy e => ?_, fun y hy e => ?_⟩
  · rcases h4 y hy with (q | q) | q
    · exact absurd e (of_decide_eq_false q)
    · exact .inl q
    · exact .inr q
  · rcases h5 y hy with (q | q) | q
    · rw [Bool.or_eq_false_iff] at q
      rcases e with e | e
      · exact absurd e (of_decide_eq_false q.1)
      · exact absurd e (of_decide_eq_false q.2)
    · exact .inl q
    · exact .inr q
theorem bb_len : bootBuiltins "len" = some (.builtin "len") := by decide +kernel
theorem bb_abs : bootBuiltins "abs" = some (.builtin "abs") := by decide +kernel
theorem bb_all : bootBuiltins "all" = some (.builtin "all") := by decide +kernel
theorem bb_any : bootBuiltins "any" = some (.builtin "any") := by decide +kernel
theorem bb_int : bootBuiltins "int" = some (.type "int") := by decide +kernel
theorem bb_bool : bootBuiltins "bool" = some (.type "bool") := by decide +kernel
theorem bb_str : bootBuiltins "str" = some (.type "str") := by decide +kernel
theorem bb_tuple : bootBuiltins "tuple" = some (.type "tuple") := by decide +kernel
theorem bb_list : bootBuiltins "list" = some (.type "list") := by decide +kernel
theorem bb_dict : bootBuiltins "dict" = some (.type "dict") := by decide +kernel
section
variable {X : Cx} {W : WX} {a : Expr} {ms : E1 (List D)} {p pos : Pos}
theorem e_len (hm : X.mg "len" = none) (ha : PA X [a] (tA ⟨X.K, jt⟩ W ms)) (hg : Gl X "len" := by rfl) (he : starEach [a] X.env = (false, eval a X.env) :: starEach [] X.env := by rfl) (hpl : (backTo pos (starEach [] X.env)).any (·.1) = false := by rfl) : PE X (.Call (.Name "len" p) [a] [] pos) (tE ⟨X.K, jt⟩ W (callE (un1 lenD) ms)) := e_callB call_len ca_len hm bb_len ha hg (by decide) (by decide) he hpl
theorem e_absc (hm : X.mg "abs" = none) (ha : PA X [a] (tA ⟨X.K, jt⟩ W ms)) (hg : Gl X "abs" := by rfl) (he : starEach [a] X.env = (false, eval a X.env) :: starEach [] X.env := by rfl) (hpl : (backTo pos (starEach [] X.env)).any (·.1) = false := by rfl) : PE X (.Call (.Name "abs" p) [a] [] pos) (tE ⟨X.K, jt⟩ W (callE (un1 absC) ms)) := e_callB call_abs ca_abs hm bb_abs ha hg (by decide) (by decide) he hpl
theorem e_all (hm : X.mg "all" = none) (ha : PA X [a] (tA ⟨X.K, jt⟩ W ms)) (hg : Gl X "all" := by rfl) (hc : X.calm = true := by rfl) (he : starEach [a] X.env = (false, eval a X.env) :: starEach [] X.env := by rfl) (hpl : (backTo pos (starEach [] X.env)).any (·.1) = false := by rfl) : PE X (.Call (.Name "all" p) [a] [] pos) (tE ⟨X.K, jt⟩ W (callE (un1 (allC false)) ms)) := e_callB (cr_all hc) ca_all hm bb_all ha hg (by decide) (by decide) he hpl
theorem e_any (hm : X.mg "any" = none) (ha : PA X [a] (tA ⟨X.K, jt⟩ W ms)) (hg : Gl X "any" := by rfl) (hc : X.calm = true := by rfl) (he : starEach [a] X.env = (false, eval a X.env) :: starEach [] X.env := by rfl) (hpl : (backTo pos (starEach [] X.env)).any (·.1) = false := by rfl) : PE X (.Call (.Name "any" p) [a] [] pos) (tE ⟨X.K, jt⟩ W (callE (un1 (allC true)) ms)) := e_callB (cr_any hc) ca_any hm bb_any ha hg (by decide) (by decide) he hpl
theorem e_intc (hm : X.mg "int" = none) (ha : PA X [a] (tA ⟨X.K, jt⟩ W ms)) (hg : Gl X "int" := by rfl) (he : starEach [a] X.env = (false, eval a X.env) :: starEach [] X.env := by rfl) (hpl : (backTo pos (starEach [] X.env)).any (·.1) = false := by rfl) : PE X (.Call (.Name "int" p) [a] [] pos) (tE ⟨X.K, jt⟩ W (callE (un1 intC) ms)) := e_callTy call_int1 ca_int hm bb_int ha hg (by decide) (by decide) he hpl
theorem e_tupc (hm : X.mg "tuple" = none) (ha : PA X [a] (tA ⟨X.K, jt⟩ W ms)) (hg : Gl X "tuple" := by rfl) (he : starEach [a] X.env = (false, eval a X.env) :: starEach [] X.env := by rfl) (hpl : (backTo pos (starEach [] X.env)).any (·.1) = false := by rfl) : PE X (.Call (.Name "tuple" p) [a] [] pos) (tE ⟨X.K, jt⟩ W (callE (un1 tupC) ms)) := e_callTy call_tupleF ca_tup hm bb_tuple ha hg (by decide) (by decide) he hpl
end
end RF

set_option maxRecDepth 100000
set_option maxHeartbeats 2000000
/-! RFk: from the head's facts to what the walk wants; the law's call. -/
namespace RF
open PySem PySem.Spec PyProof.Rows L2
mutual
/-- a tree of the top is written -/
def rvB (K : PySem.W.Frag) : D → Value → Bool
  | .non, .none => true
  | .bl b, .bool c => decide (b = c)
  | .int i, .int j _ => decide (i = j)
  | .str x, .str y _ => decide (x = y)
  | .tup l, .ref a => (match K.lookup a with
    | some ⟨.type c, none, .seq its _, _⟩ => decide (c = "tuple") && (Nat.ble its.size 16777216 && rvBs K l its.toList)
    | _ => false)
  | _, _ => false
def rvBs (K : PySem.W.Frag) : List D → List Value → Bool
  | [], [] => true
  | d :: l, u :: us => rvB K d u && rvBs K l us
  | _, _ => false
end
mutual
theorem rvB_ok {K : PySem.W.Frag} : ∀ (d : D) (u : Value), rvB K d u = true → ∃ v, RelV v u ∧ ∀ B jt η n H, RV ⟨K, B, jt⟩ η n H d v
  | .non, .none, _ => ⟨.non, rfl, fun _ _ _ _ _ => RV.non⟩
  | .bl b, .bool c, h => by
    have e : b = c := of_decide_eq_true (by simpa [rvB] using h)
    subst e
    exact ⟨.bl b, rfl, fun _ _ _ _ _ => RV.bl⟩
  | .int i, .int j t, h => by
    have e : i = j := of_decide_eq_true (by simpa [rvB] using h)
    subst e
    exact ⟨.int i, ⟨t, rfl⟩, fun _ _ _ _ _ => RV.int⟩
  | .str i, .str j t, h => by
    have e : i = j := of_decide_eq_true (by simpa [rvB] using h)
    subst e
    exact ⟨.str i, ⟨t, rfl⟩, fun _ _ _ _ _ => RV.str⟩
  | .tup l, .ref a, h => by
    unfold rvB at h
    cases q : K.lookup a with
    | none => simp only [q] at h; cases h
    | some o =>
      obtain ⟨oc, od, dt, sl⟩ := o
      simp only [q] at h
      cases oc with
      | type c =>
        cases od with
        | none =>
          cases dt with
          | seq its n =>
            simp only [Bool.and_eq_true, decide_eq_true_eq] at h
            obtain ⟨hc, hz, hs⟩ := h
            obtain ⟨vs, rvs, hr⟩ := rvBs_ok l its.toList hs
            refine ⟨.ref a, rfl, fun B jt η n' H => ?_⟩
            unfold RV
            exact ⟨a, vs, rfl, .inr ⟨_, its, n, q, by rw [hc], rfl, rfl, by rw [sizeLine_eq]; exact Nat.le_of_ble_eq_true hz, rvs⟩, hr B jt η n' H⟩
          | _ => cases h
        | some _ => cases h
      | _ => cases h
  | .non, .bool _, h | .non, .int _ _, h | .non, .str _ _, h | .non, .ref _, h => by simp [rvB] at h
  | .bl _, .none, h | .bl _, .int _ _, h | .bl _, .str _ _, h | .bl _, .ref _, h => by simp [rvB] at h
  | .int _, .none, h | .int _, .bool _, h | .int _, .str _ _, h | .int _, .ref _, h => by simp [rvB] at h
  | .str _, .none, h | .str _, .bool _, h | .str _, .int _ _, h | .str _, .ref _, h => by simp [rvB] at h
  | .tup _, .none, h | .tup _, .bool _, h | .tup _, .int _ _, h | .tup _, .str _ _, h => by simp [rvB] at h
  | .lst _, _, h | .frz _, _, h | .pr _, _, h | .ref _, _, h | .cst _, _, h => by simp [rvB] at h
  | .non, .float _ _, h | .bl _, .float _ _, h | .int _, .float _ _, h | .str _, .float _ _, h | .tup _, .float _ _, h => by simp [rvB] at h
  | .non, .type _, h | .bl _, .type _, h | .int _, .type _, h | .str _, .type _, h | .tup _, .type _, h => by simp [rvB] at h
theorem rvBs_ok {K : PySem.W.Frag} : ∀ (l : List D) (us : List Value), rvBs K l us = true → ∃ vs, Vals vs us ∧ ∀ B jt η n H, RVs ⟨K, B, jt⟩ η n H l vs
  | [], [], _ => ⟨[], .nil, fun _ _ _ _ _ => RVs.nil⟩
  | d :: l, u :: us, h => by
    simp only [rvBs, Bool.and_eq_true] at h
    obtain ⟨v, r1, r2⟩ := rvB_ok d u h.1
    obtain ⟨vs, r3, r4⟩ := rvBs_ok l us h.2
    exact ⟨v :: vs, .cons r1 r3, fun B jt η n H => RVs.cons (r2 B jt η n H) (r4 B jt η n H)⟩
  | [], _ :: _, h => by simp [rvBs] at h
  | _ :: _, [], h => by simp [rvBs] at h
end
end RF
namespace RF
open PySem PySem.Spec PyProof.Rows L2
theorem rvB_top {K : PySem.W.Frag} {d : D} {a : Addr} (h : rvB K d (.ref a) = true) : ∀ B jt η n H, RV ⟨K, B, jt⟩ η n H d (.ref a) := by
  obtain ⟨v, r, q⟩ := rvB_ok d (.ref a) h
  cases v with
  | ref b => cases r; exact q
  | int i => obtain ⟨t, e⟩ := r; cases e
  | str i => obtain ⟨t, e⟩ := r; cases e
  | byt b => obtain ⟨t, e⟩ := r; cases e
  | flt b => obtain ⟨t, e⟩ := r; cases e
  | _ => cases r
theorem dkT_of {K : PySem.W.Frag} {mg : Str → Option Value} {x : Str} {st : Stmt} {ps : List Str} {f : Addr} (g : mg x = some (.ref f)) (d : ∃ fd, FunD K x x (defArgs st) (defBody st) (defScope st) [] [] f fd)
    (h : ∀ (kV doc pm : Value) (an : Option Addr) (cdv ct : Value) (us : List Value), us.length = ps.length → bindArgs (PySem.W.fnOf x x (defArgs st) (defBody st) (defScope st) .none kV doc pm an cdv ct) ⟨us, []⟩ = pure (ps.zip us)) : Dk K mg x st ps := by
  obtain ⟨fd, F⟩ := d
  exact ⟨f, fd, g, F, FunD.bindsN F h⟩
theorem xv_of {K : PySem.W.Frag} {mg : Str → Option Value} {x : Str} (g : mg x = some (.ref (He.ga K x))) (c : (He.Fa.exc x).ok K = true) : XV K mg x := by
  obtain ⟨h1, h2, h3, h4⟩ := He.exc_ok c
  exact ⟨g, h1, h2, h3, h4⟩
theorem exB {l : List Bool} (h : l.all id = true) (i : Nat) {b : Bool} (e : l[i]? = some b) : b = true := List.all_eq_true.mp h b (List.mem_of_getElem? e)
/-- whatever the world is -/
def CXa (P : Program) : CXT := fun outer H s E u s' => ∃ w, L2.CX P w outer H s E u s'
theorem fnOk_cx {P : Program} {w : World} {K : PySem.W.Frag} {mg : Str → Option Value} {base : Heap} {k : Nat} {f : Addr} {fd : FuncData} {ps : List Str} {sp : Sp} (F : FnOk P w K mg base (L2.CX P w) k f fd ps sp) : FnOk P w K mg base (CXa P) k f fd ps sp := ⟨F.len, fun A outer s H args us vs Q E hr he hb hv hs => by
  refine codeAny_mono (F.run A outer s H args us vs Q E hr he hb hv hs) fun r s' hq => ?_
  cases r with
  | error e => exact ⟨w, hq⟩
  | ok fl => cases fl <;> exact hq⟩
theorem cxa_none {P : Program} (H : Hp) (s : Shared) (e : Value) (s' : Shared) (h : CXa P [] H s (fun _ _ _ => False) e s') : False := by
  obtain ⟨w, a, B, H', cls, d, _, _, _, _, _, _, _, z⟩ := h
  exact z
/-- the law's own call: the script is a list that stands -/
theorem law_sp {K : PySem.W.Frag} {mf : List D → AH → R D} {ns : List Int} {h' : AH} (e : mf [.frz (ns.map D.int)] [] = .ok (.bl true) h') (H : Hp) (a : Addr) (hS : SqL K H a (ns.map V.int)) : spM K 1 mf [.ref a] H (fun v _ => v = .bl true) fun _ _ _ => False := by
  refine ⟨rfl, fun _ => False, [], fun _ => 0, [.frz (ns.map D.int)], ⟨fun i o e => by simp at e, fun i j hi => by simp at hi, fun a z => z.elim, fun _ _ _ e => by cases e⟩, RVs.cons ?_ RVs.nil, ?_⟩
  · unfold RV
    refine ⟨a, ns.map V.int, rfl, ?_, ?_⟩
    · rcases hS with (h | ⟨o, h⟩) | h
      · exact .inl ⟨_, h, .inl rfl, fun i hi => by simp at hi, fun z => z⟩
      · exact .inl ⟨_, h, .inr ⟨o, rfl⟩, fun i hi => by simp at hi, fun z => z⟩
      · exact .inr h
    · have key : ∀ l : List Int, RVs ⟨K, fun _ => False, none⟩ (fun _ => 0) ([] : AH).length H (l.map D.int) (l.map V.int) := by
        intro l
        induction l with
        | nil => exact RVs.nil
        | cons x l ih => exact RVs.cons RV.int ih
      exact key ns
  · rw [e]
    exact fun η' H' v _ _ rv => rv.blS
theorem law_end {l : PySem.W.OpenLaw} {k : Nat} {q : Program} {loose : List Str} {XP : (Str → Option Value) → Heap → Prop} {YP : World → Heap → Prop} {d : DefRec} {mf : List D → AH → R D}
    (hn : l.most = some 63) (hdf : d.params.defaults = []) (hr : Room k callerA) (hlaw : ∀ ns : List Int, ns.length ≤ 63 → ∃ h', mf [.frz (ns.map D.int)] [] = .ok (.bl true) h')
    (F : ∀ (w : World) (mg : Str → Option Value) (fa : Addr) (h : Heap), YP w h → h.Ns mainGlobals mg → mg d.name = some (.ref fa) →
      ∃ (K : PySem.W.Frag), K.In h ∧ ∃ (fd : FuncData), (∀ (s : Shared) (u : Value), BindsTo s fd ⟨[u], []⟩ [("_law_script", u)]) ∧ ∀ base : Heap, FnOk l.prog w K mg base (L2.CX l.prog w) k fa fd ["_law_script"] (spM K 1 mf)) :
    PySem.W.WalkO q loose XP YP l.row.toRowW d [] (fun f vs => PySem.call f vs) := by
  refine L2.walk_ofE (CX := CXa l.prog) (k := k) (x := "_law_script") hn (by decide) hdf hr (fun w mg fa h Y G hmg => ?_) fun H s e s' z => cxa_none H s e s' z
  obtain ⟨K, KX, fd, hb, hF⟩ := F w mg fa h Y G hmg
  exact ⟨K, fd, spM K 1 mf, KX, hb, fun H a ns hl _ hS => let ⟨h', e⟩ := hlaw ns hl; law_sp e H a hS, fun base _ _ => fnOk_cx (hF base)⟩
theorem fk_at {P : Program} {w : World} {K : PySem.W.Frag} {mg : Str → Option Value} {base : Heap} {k : Nat} {x : Str} {ps : List Str} {mf : List D → AH → R D} {f : Addr} {fd : FuncData} {qual : Str} {params : Arguments} {body : List Stmt} {scope : Scope} {dvs : List V} {kws : List (Str × V)} (F : Fk P w K mg base k x ps mf) (g : mg x = some (.ref f)) (D : FunD K x qual params body scope dvs kws f fd) : FnOk P w K mg base (L2.CX P w) k f fd ps (spM K ps.length mf) := by
  obtain ⟨f2, fd2, g2, kp, b, at_, F2⟩ := F
  rw [g] at g2
  cases g2
  obtain ⟨oc, od, osl, e⟩ := at_
  obtain ⟨_, _, _, _, _, _, _, _, _, _, _, e2, _⟩ := D.ex
  rw [e] at e2
  cases e2
  exact F2
end RF

set_option maxRecDepth 100000
set_option maxHeartbeats 4000000
namespace RF
open PySem PySem.Spec PyProof.Rows L2
def top (i : Nat) : Stmt := PySem.Challenge.pw_selflead_k31_whole_worths.main.body.getD i (.Pass ⟨0, 0, 0, 0⟩)
def c_DEEDS : D := .tup [.str "copy", .str "plus", .str "minus", .str "half", .str "less", .str "same", .str "kind", .str "many", .str "at", .str "add", .str "put", .str "pair", .str "union", .str "counts", .str "spread", .str "fill", .str "do", .str "falls"]
def c_MAKING : D := .tup [.str "add", .str "union"]
def mt_Fallen : List (Str × Bool) := [("LeadError", false), ("BadWorth", false), ("BadDeed", false), ("Fallen", true)]
def mt_BadWorth : List (Str × Bool) := [("LeadError", false), ("BadWorth", true), ("BadDeed", false), ("Fallen", false)]
def mt_BadDeed : List (Str × Bool) := [("LeadError", false), ("BadWorth", false), ("BadDeed", true), ("Fallen", false)]
def mt_LeadError : List (Str × Bool) := [("LeadError", true), ("BadWorth", true), ("BadDeed", true), ("Fallen", false)]
structure Tx (K : PySem.W.Frag) (mg : Str → Option Value) : Prop where
  d_is_number : Dk K mg "is_number" (top 13) ["thing"]
  d_is_word : Dk K mg "is_word" (top 14) ["thing"]
  d_is_within : Dk K mg "is_within" (top 15) ["thing", "room"]
  d_is_worth : Dk K mg "is_worth" (top 16) ["thing"]
  d_kind_of : Dk K mg "kind_of" (top 17) ["worth"]
  d_check_kinds : Dk K mg "check_kinds" (top 18) ["worths", "kind"]
  d_summed : Dk K mg "summed" (top 19) ["deed", "one", "other"]
  d_member : Dk K mg "member" (top 20) ["some", "count"]
  d_put_in : Dk K mg "put_in" (top 21) ["some", "pair"]
  d_filled : Dk K mg "filled" (top 22) ["some", "store"]
  d_united : Dk K mg "united" (top 23) ["one", "other"]
  d_listed : Dk K mg "listed" (top 24) ["deed", "one", "other"]
  d_operands_of : Dk K mg "operands_of" (top 25) ["some"]
  d_reflected : Dk K mg "reflected" (top 26) ["deed", "word", "some"]
  d_made_by : Dk K mg "made_by" (top 29) ["deed", "one", "other"]
  d_told_by : Dk K mg "told_by" (top 30) ["deed", "one", "other"]
  d_done : Dk K mg "done" (top 31) ["deed", "a", "b"]
  d__law_cell_at : Dk K mg "_law_cell_at" (top 33) ["_law_script", "_law_k"]
  d__law_numbers : Dk K mg "_law_numbers" (top 34) ["_law_cell", "_law_limits"]
  d__law_by : Dk K mg "_law_by" (top 35) ["_law_draws_here", "_law_many"]
  d__law_draws : Dk K mg "_law_draws" (top 36) ["_law_script", "_law_at", "_law_many"]
  d__law_kind : Dk K mg "_law_kind" (top 37) ["_law_w"]
  d__law_sum : Dk K mg "_law_sum" (top 38) ["_law_deed_here", "_law_a", "_law_b"]
  d__law_two : Dk K mg "_law_two" (top 39) ["_law_deed_here", "_law_a", "_law_b"]
  d__law_one : Dk K mg "_law_one" (top 40) ["_law_deed_here", "_law_a", "_law_b"]
  d__law_fill : Dk K mg "_law_fill" (top 41) ["_law_a", "_law_b"]
  d__law_is_pair : Dk K mg "_law_is_pair" (top 42) ["_law_one_here"]
  d__law_deed : Dk K mg "_law_deed" (top 43) ["_law_deed_here", "_law_a", "_law_b"]
  d__law_words : Dk K mg "_law_words" (top 44) []
  d__law_worth : Dk K mg "_law_worth" (top 45) ["_law_draws_here", "_law_deep"]
  d__law_fit : Dk K mg "_law_fit" (top 46) ["_law_draws_here", "_law_deed_here"]
  d__law_all_right : Dk K mg "_law_all_right" (top 47) ["_law_script"]
  d_law : Dk K mg "law" (top 48) ["_law_script"]
  fr_all : mg "all" = none
  fr_any : mg "any" = none
  fr_bool : mg "bool" = none
  fr_enumerate : mg "enumerate" = none
  fr_int : mg "int" = none
  fr_isinstance : mg "isinstance" = none
  fr_len : mg "len" = none
  fr_list : mg "list" = none
  fr_range : mg "range" = none
  fr_str : mg "str" = none
  fr_tuple : mg "tuple" = none
  k_DEEDS : mg "DEEDS" = some (.ref (He.ga K "DEEDS"))
  r_DEEDS : ∀ B jt η n H, RV ⟨K, B, jt⟩ η n H c_DEEDS (.ref (He.ga K "DEEDS"))
  k_EARLY : ∃ t, mg "EARLY" = some (.str "e" t)
  k_FILLED : ∃ t, mg "FILLED" = some (.str "c" t)
  k_LETTERS : ∃ t, mg "LETTERS" = some (.str "abcdefghijklmnopqrstuvwxyz" t)
  k_MAKING : mg "MAKING" = some (.ref (He.ga K "MAKING"))
  r_MAKING : ∀ B jt η n H, RV ⟨K, B, jt⟩ η n H c_MAKING (.ref (He.ga K "MAKING"))
  k_MOST_LETTERS : ∃ t, mg "MOST_LETTERS" = some (.int 8 t)
  k_MOST_MEMBERS : ∃ t, mg "MOST_MEMBERS" = some (.int 5000 t)
  k_MOST_NUMBER : ∃ t, mg "MOST_NUMBER" = some (.int 9999 t)
  k_MOST_WITHIN : ∃ t, mg "MOST_WITHIN" = some (.int 20 t)
  x_BadDeed : XV K mg "BadDeed"
  x_BadWorth : XV K mg "BadWorth"
  n_Fallen : mg "Fallen" = some (.ref (He.ga K "Fallen"))
  mt_Fallen : Mt K (.ref (He.ga K "Fallen")) mt_Fallen
  n_BadWorth : mg "BadWorth" = some (.ref (He.ga K "BadWorth"))
  mt_BadWorth : Mt K (.ref (He.ga K "BadWorth")) mt_BadWorth
  n_BadDeed : mg "BadDeed" = some (.ref (He.ga K "BadDeed"))
  mt_BadDeed : Mt K (.ref (He.ga K "BadDeed")) mt_BadDeed
  n_LeadError : mg "LeadError" = some (.ref (He.ga K "LeadError"))
  mt_LeadError : Mt K (.ref (He.ga K "LeadError")) mt_LeadError
  fal : ∃ fI, RFX.Fal K mg (He.ga K "Fallen") fI
  xfF : XfC K (He.ga K "Fallen")
  xn_word : PySem.W.findIn K (.ref (He.ga K "Fallen")) "word" = some none
def b_is_number : S1 := (retS (andE (isiE .int (varE 0)) (andE (notE (isiE .bool (varE 0))) (chE (intD leF) (intD leF) (unE negD (pureE (.int 9999))) (varE 0) (pureE (.int 9999))))))
theorem sc_is_number : FnScope ["thing"] ["thing"] (defScope (top 13)) := ⟨rfl, rfl, rfl, by decide +kernel, rfl, by decide +kernel, by decide +kernel⟩
def m_is_number : List D → AH → R D := runF 1 b_is_number
def b_is_word : S1 := (retS (andE (isiE .str (varE 0)) (andE (chE (intD leF) (intD leF) (pureE (.int 1)) (callE (un1 lenD) (consE (varE 0) (pureE []))) (pureE (.int 8))) (callE (un1 (allC false)) (consE (pureL (compE [1] (seqE (varE 0)) (gN 1) yesE (opE (inD false) (varE 1) (pureE (.str "abcdefghijklmnopqrstuvwxyz"))))) (pureE []))))))
theorem sc_is_word : FnScope ["thing", "sign"] ["thing"] (defScope (top 14)) := ⟨rfl, rfl, rfl, by decide +kernel, rfl, by decide +kernel, by decide +kernel⟩
def m_is_word : List D → AH → R D := runF 2 b_is_word
def b_is_within (r_is_within : List D → AH → R D) : S1 := (seqS (ifS (valT (isiE .tuple (varE 0))) (retS (andE (opE (intD gtF) (varE 1) (pureE (.int 0))) (andE (opE (intD leF) (callE (un1 lenD) (consE (varE 0) (pureE []))) (pureE (.int 5000))) (callE (un1 (allC false)) (consE (pureL (compE [2] (seqE (varE 0)) (gN 2) yesE (callF r_is_within (consE (varE 2) (consE (opE (intD subF) (varE 1) (pureE (.int 1))) (pureE [])))))) (pureE [])))))) nopS) (retS (andE (opE (intD gtF) (varE 1) (pureE (.int 0))) (orE (callF m_is_number (consE (varE 0) (pureE []))) (callF m_is_word (consE (varE 0) (pureE [])))))))
theorem sc_is_within : FnScope ["thing", "room", "one"] ["thing", "room"] (defScope (top 15)) := ⟨rfl, rfl, rfl, by decide +kernel, rfl, by decide +kernel, by decide +kernel⟩
def l_is_within : Nat → List D → AH → R D
  | 0 => fun _ _ => .stuck
  | k + 1 => runF 3 (b_is_within (l_is_within k))
def m_is_within : List D → AH → R D := l_is_within 24
def b_is_worth : S1 := (retS (callF m_is_within (consE (varE 0) (consE (pureE (.int 20)) (pureE [])))))
theorem sc_is_worth : FnScope ["thing"] ["thing"] (defScope (top 16)) := ⟨rfl, rfl, rfl, by decide +kernel, rfl, by decide +kernel, by decide +kernel⟩
def m_is_worth : List D → AH → R D := runF 1 b_is_worth
def b_kind_of : S1 := (retS (ifE (valT (isiE .tuple (varE 0))) (pureE (.int 2)) (ifE (valT (isiE .str (varE 0))) (pureE (.int 1)) (pureE (.int 0)))))
theorem sc_kind_of : FnScope ["worth"] ["worth"] (defScope (top 17)) := ⟨rfl, rfl, rfl, by decide +kernel, rfl, by decide +kernel, by decide +kernel⟩
def m_kind_of : List D → AH → R D := runF 1 b_kind_of
def b_check_kinds : S1 := (ifS (valT (callE (un1 (allC true)) (consE (pureL (compE [2] (seqE (varE 0)) (gN 2) yesE (opE (eqD true) (callF m_kind_of (consE (varE 2) (pureE []))) (varE 1)))) (pureE [])))) (raiseF (pureE (.str "kind"))) nopS)
theorem sc_check_kinds : FnScope ["worths", "kind", "worth"] ["worths", "kind"] (defScope (top 18)) := ⟨rfl, rfl, rfl, by decide +kernel, rfl, by decide +kernel, by decide +kernel⟩
def m_check_kinds : List D → AH → R D := runF 3 b_check_kinds
def b_summed : S1 := (seqS (dropS (callF m_check_kinds (consE (ifE (valT (opE (eqD false) (varE 0) (pureE (.str "half")))) (pureL (dispE (consE (varE 1) (pureE [])))) (pureL (dispE (consE (varE 1) (consE (varE 2) (pureE [])))))) (consE (pureE (.int 0)) (pureE []))))) (seqS (ifS (valT (opE (eqD false) (varE 0) (pureE (.str "less")))) (retS (callE (un1 intC) (consE (opE (intD ltF) (varE 1) (varE 2)) (pureE [])))) nopS) (seqS (setS 3 (ifE (valT (opE (eqD false) (varE 0) (pureE (.str "half")))) (opE (intD fdivF) (varE 1) (pureE (.int 2))) (ifE (valT (opE (eqD false) (varE 0) (pureE (.str "plus")))) (opE addD (varE 1) (varE 2)) (opE (intD subF) (varE 1) (varE 2))))) (seqS (ifS (notT (valT (chE (intD leF) (intD leF) (unE negD (pureE (.int 9999))) (varE 3) (pureE (.int 9999))))) (raiseF (pureE (.str "big"))) nopS) (retS (varE 3))))))
theorem sc_summed : FnScope ["deed", "one", "other", "found"] ["deed", "one", "other"] (defScope (top 19)) := ⟨rfl, rfl, rfl, by decide +kernel, rfl, by decide +kernel, by decide +kernel⟩
def m_summed : List D → AH → R D := runF 4 b_summed
def b_member : S1 := (seqS (ifS (notT (valT (chE (intD leF) (intD ltF) (pureE (.int 0)) (varE 1) (callE (un1 lenD) (consE (varE 0) (pureE [])))))) (raiseF (pureE (.str "out"))) nopS) (retS (opE ixD (varE 0) (varE 1))))
theorem sc_member : FnScope ["some", "count"] ["some", "count"] (defScope (top 20)) := ⟨rfl, rfl, rfl, by decide +kernel, rfl, by decide +kernel, by decide +kernel⟩
def m_member : List D → AH → R D := runF 2 b_member
def b_put_in : S1 := (seqS (dropS (callF m_check_kinds (consE (pureL (dispE (consE (varE 0) (consE (varE 1) (pureE []))))) (consE (pureE (.int 2)) (pureE []))))) (seqS (ifS (orT (valT (opE (eqD true) (callE (un1 lenD) (consE (varE 1) (pureE []))) (pureE (.int 2)))) (valT (opE (eqD true) (callF m_kind_of (consE (opE ixD (varE 1) (pureE (.int 0))) (pureE []))) (pureE (.int 0))))) (raiseF (pureE (.str "kind"))) nopS) (seqS (dropS (callF m_member (consE (varE 0) (consE (opE ixD (varE 1) (pureE (.int 0))) (pureE []))))) (retS (opE addD (opE addD (slE (varE 0) (pureE none) (partE (opE ixD (varE 1) (pureE (.int 0))))) (tupE (consE (opE ixD (varE 1) (pureE (.int 1))) (pureE [])))) (slE (varE 0) (partE (opE addD (opE ixD (varE 1) (pureE (.int 0))) (pureE (.int 1)))) (pureE none)))))))
theorem sc_put_in : FnScope ["some", "pair"] ["some", "pair"] (defScope (top 21)) := ⟨rfl, rfl, rfl, by decide +kernel, rfl, by decide +kernel, by decide +kernel⟩
def m_put_in : List D → AH → R D := runF 2 b_put_in
def b_filled : S1 := (seqS (dropS (callF m_check_kinds (consE (pureL (dispE (consE (varE 0) (consE (varE 1) (pureE []))))) (consE (pureE (.int 2)) (pureE []))))) (seqS (setS 2 (pureL (compE [4] (seqE (varE 0)) (gN 4) (andT (valT (opE (eqD false) (callF m_kind_of (consE (varE 4) (pureE []))) (pureE (.int 2)))) (andT (valT (opE (eqD false) (callE (un1 lenD) (consE (varE 4) (pureE []))) (pureE (.int 2)))) (valT (opE (eqD false) (opE ixD (varE 4) (pureE (.int 0))) (pureE (.str "e")))))) (opE ixD (varE 4) (pureE (.int 1)))))) (seqS (dropS (callF m_check_kinds (consE (varE 2) (consE (pureE (.int 0)) (pureE []))))) (seqS (setS 3 (newL (dispE (pureE [])))) (seqS (forS (seqE (varE 0)) (gN 4) (seqS (setS 5 (andE (opE (eqD false) (callF m_kind_of (consE (varE 4) (pureE []))) (pureE (.int 2))) (andE (opE (eqD false) (callE (un1 lenD) (consE (varE 4) (pureE []))) (pureE (.int 2))) (opE (eqD false) (opE ixD (varE 4) (pureE (.int 0))) (pureE (.str "e")))))) (dropS (appL (varE 3) (ifE (valT (varE 5)) (tupE (consE (pureE (.str "c")) (consE (callF m_member (consE (varE 1) (consE (opE ixD (varE 4) (pureE (.int 1))) (pureE [])))) (pureE [])))) (varE 4)))))) (retS (callE (un1 tupC) (consE (varE 3) (pureE [])))))))))
theorem sc_filled : FnScope ["some", "store", "places", "found", "one", "is_early"] ["some", "store"] (defScope (top 22)) := ⟨rfl, rfl, rfl, by decide +kernel, rfl, by decide +kernel, by decide +kernel⟩
def m_filled : List D → AH → R D := runF 6 b_filled
def b_united : S1 := (seqS (setS 2 (newL (listN (varE 0)))) (seqS (forS (seqE (varE 1)) (gN 3) (ifS (valT (opE (inD true) (varE 3) (varE 2))) (dropS (appL (varE 2) (varE 3))) nopS)) (retS (callE (un1 tupC) (consE (varE 2) (pureE []))))))
theorem sc_united : FnScope ["one", "other", "found", "thing"] ["one", "other"] (defScope (top 23)) := ⟨rfl, rfl, rfl, by decide +kernel, rfl, by decide +kernel, by decide +kernel⟩
def m_united : List D → AH → R D := runF 4 b_united
def b_listed : S1 := (seqS (dropS (callF m_check_kinds (consE (ifE (valT (opE (inD false) (varE 0) (tupE (consE (pureE (.str "union")) (consE (pureE (.str "counts")) (pureE [])))))) (pureL (dispE (consE (varE 1) (consE (varE 2) (pureE []))))) (pureL (dispE (consE (varE 1) (pureE []))))) (consE (pureE (.int 2)) (pureE []))))) (seqS (ifS (valT (opE (eqD false) (varE 0) (pureE (.str "many")))) (retS (callE (un1 lenD) (consE (varE 1) (pureE [])))) nopS) (seqS (ifS (valT (opE (eqD false) (varE 0) (pureE (.str "at")))) (seqS (dropS (callF m_check_kinds (consE (pureL (dispE (consE (varE 2) (pureE [])))) (consE (pureE (.int 0)) (pureE []))))) (retS (callF m_member (consE (varE 1) (consE (varE 2) (pureE [])))))) nopS) (seqS (ifS (valT (opE (eqD false) (varE 0) (pureE (.str "add")))) (retS (opE addD (varE 1) (tupE (consE (varE 2) (pureE []))))) nopS) (seqS (ifS (valT (opE (eqD false) (varE 0) (pureE (.str "spread")))) (retS (callE (un1 tupC) (consE (pureL (compE [3] (seqE (varE 1)) (gN 3) yesE (tupE (consE (varE 3) (consE (varE 2) (pureE [])))))) (pureE [])))) nopS) (seqS (ifS (valT (opE (eqD false) (varE 0) (pureE (.str "counts")))) (retS (callE (un1 tupC) (consE (pureL (compE [3] (seqE (varE 2)) (gN 3) yesE (ifE (valT (opE (inD false) (varE 3) (varE 1))) (indexT (varE 1) (varE 3)) (callE (un1 lenD) (consE (varE 1) (pureE [])))))) (pureE [])))) nopS) (retS (callF m_united (consE (varE 1) (consE (varE 2) (pureE [])))))))))))
theorem sc_listed : FnScope ["deed", "one", "other", "thing"] ["deed", "one", "other"] (defScope (top 24)) := ⟨rfl, rfl, rfl, by decide +kernel, rfl, by decide +kernel, by decide +kernel⟩
def m_listed : List D → AH → R D := runF 4 b_listed
def b_operands_of : S1 := (seqS (dropS (callF m_check_kinds (consE (pureL (dispE (consE (varE 0) (pureE [])))) (consE (pureE (.int 2)) (pureE []))))) (seqS (ifS (orT (valT (opE (eqD true) (callE (un1 lenD) (consE (varE 0) (pureE []))) (pureE (.int 2)))) (notT (valT (callE (un1 (allC false)) (consE (pureL (compE [1] (seqE (varE 0)) (gN 1) yesE (andE (opE (eqD false) (callF m_kind_of (consE (varE 1) (pureE []))) (pureE (.int 2))) (andE (opE (eqD false) (callE (un1 lenD) (consE (varE 1) (pureE []))) (pureE (.int 2))) (opE (eqD false) (opE ixD (varE 1) (pureE (.int 0))) (pureE (.str "c"))))))) (pureE [])))))) (raiseF (pureE (.str "kind"))) nopS) (retS (tupE (consE (opE ixD (opE ixD (varE 0) (pureE (.int 0))) (pureE (.int 1))) (consE (opE ixD (opE ixD (varE 0) (pureE (.int 1))) (pureE (.int 1))) (pureE [])))))))
theorem sc_operands_of : FnScope ["some", "one"] ["some"] (defScope (top 25)) := ⟨rfl, rfl, rfl, by decide +kernel, rfl, by decide +kernel, by decide +kernel⟩
def m_operands_of : List D → AH → R D := runF 2 b_operands_of
def b_reflected (r_reflected : List D → AH → R D) (r_made_by : List D → AH → R D) (r_told_by : List D → AH → R D) : S1 := (seqS (ifS (orT (valT (opE (eqD true) (callF m_kind_of (consE (varE 1) (pureE []))) (pureE (.int 1)))) (valT (opE (inD true) (varE 1) (pureE c_DEEDS)))) (raiseF (pureE (.str "kind"))) nopS) (seqS (asgS (gTu [(gN 3), (gN 4)]) (callF m_operands_of (consE (varE 2) (pureE [])))) (seqS (ifS (valT (opE (eqD false) (varE 0) (pureE (.str "do")))) (retS (callF r_told_by (consE (varE 1) (consE (varE 3) (consE (varE 4) (pureE [])))))) nopS) (seqS (tryAs 5 mt_Fallen (dropS (callF r_told_by (consE (varE 1) (consE (varE 3) (consE (varE 4) (pureE [])))))) (fun a y => (retS (xfE a y "Fallen" "word" (varE 5))))) (retS (pureE (.int 0)))))))
theorem sc_reflected : FnScope ["deed", "word", "some", "one", "other", "fallen"] ["deed", "word", "some"] (defScope (top 26)) := ⟨rfl, rfl, rfl, by decide +kernel, rfl, by decide +kernel, by decide +kernel⟩
def b_made_by (r_reflected : List D → AH → R D) (r_made_by : List D → AH → R D) (r_told_by : List D → AH → R D) : S1 := (seqS (ifS (valT (opE (inD false) (varE 0) (tupE (consE (pureE (.str "plus")) (consE (pureE (.str "minus")) (consE (pureE (.str "half")) (consE (pureE (.str "less")) (pureE [])))))))) (retS (callF m_summed (consE (varE 0) (consE (varE 1) (consE (varE 2) (pureE [])))))) nopS) (seqS (ifS (valT (opE (inD false) (varE 0) (tupE (consE (pureE (.str "many")) (consE (pureE (.str "at")) (consE (pureE (.str "add")) (consE (pureE (.str "union")) (consE (pureE (.str "counts")) (consE (pureE (.str "spread")) (pureE [])))))))))) (retS (callF m_listed (consE (varE 0) (consE (varE 1) (consE (varE 2) (pureE [])))))) nopS) (seqS (ifS (valT (opE (inD false) (varE 0) (tupE (consE (pureE (.str "do")) (consE (pureE (.str "falls")) (pureE [])))))) (retS (callF r_reflected (consE (varE 0) (consE (varE 1) (consE (varE 2) (pureE [])))))) nopS) (seqS (ifS (valT (opE (eqD false) (varE 0) (pureE (.str "put")))) (retS (callF m_put_in (consE (varE 1) (consE (varE 2) (pureE []))))) nopS) (seqS (ifS (valT (opE (eqD false) (varE 0) (pureE (.str "fill")))) (retS (callF m_filled (consE (varE 1) (consE (varE 2) (pureE []))))) nopS) (seqS (ifS (valT (opE (eqD false) (varE 0) (pureE (.str "pair")))) (retS (tupE (consE (varE 1) (consE (varE 2) (pureE []))))) nopS) (seqS (ifS (valT (opE (eqD false) (varE 0) (pureE (.str "same")))) (retS (callE (un1 intC) (consE (opE (eqD false) (varE 1) (varE 2)) (pureE [])))) nopS) (retS (ifE (valT (opE (eqD false) (varE 0) (pureE (.str "kind")))) (callF m_kind_of (consE (varE 1) (pureE []))) (varE 1))))))))))
theorem sc_made_by : FnScope ["deed", "one", "other"] ["deed", "one", "other"] (defScope (top 29)) := ⟨rfl, rfl, rfl, by decide +kernel, rfl, by decide +kernel, by decide +kernel⟩
def b_told_by (r_reflected : List D → AH → R D) (r_made_by : List D → AH → R D) (r_told_by : List D → AH → R D) : S1 := (seqS (setS 3 (callF r_made_by (consE (varE 0) (consE (varE 1) (consE (varE 2) (pureE [])))))) (seqS (ifS (andT (valT (opE (inD false) (varE 0) (pureE c_MAKING))) (valT (opE (intD gtF) (callE (un1 lenD) (consE (varE 3) (pureE []))) (pureE (.int 5000))))) (raiseF (pureE (.str "big"))) nopS) (retS (varE 3))))
theorem sc_told_by : FnScope ["deed", "one", "other", "found"] ["deed", "one", "other"] (defScope (top 30)) := ⟨rfl, rfl, rfl, by decide +kernel, rfl, by decide +kernel, by decide +kernel⟩
mutual
def l_reflected : Nat → List D → AH → R D
  | 0 => fun _ _ => .stuck
  | k + 1 => runF 6 (b_reflected (l_reflected k) (l_made_by k) (l_told_by k))
def l_made_by : Nat → List D → AH → R D
  | 0 => fun _ _ => .stuck
  | k + 1 => runF 3 (b_made_by (l_reflected k) (l_made_by k) (l_told_by k))
def l_told_by : Nat → List D → AH → R D
  | 0 => fun _ _ => .stuck
  | k + 1 => runF 4 (b_told_by (l_reflected k) (l_made_by k) (l_told_by k))
end
def m_reflected : List D → AH → R D := l_reflected 60
def m_made_by : List D → AH → R D := l_made_by 60
def m_told_by : List D → AH → R D := l_told_by 60
def b_done : S1 := (seqS (ifS (orT (notT (valT (isiE .str (varE 0)))) (valT (opE (inD true) (varE 0) (pureE c_DEEDS)))) (raiseV "BadDeed") nopS) (seqS (ifS (orT (notT (valT (callF m_is_worth (consE (varE 1) (pureE []))))) (notT (valT (callF m_is_worth (consE (varE 2) (pureE [])))))) (raiseV "BadWorth") nopS) (tryAs 3 mt_Fallen (retS (tupE (consE (pureE (.str "worth")) (consE (callF m_told_by (consE (varE 0) (consE (varE 1) (consE (varE 2) (pureE []))))) (pureE []))))) (fun a y => (retS (tupE (consE (pureE (.str "fall")) (consE (xfE a y "Fallen" "word" (varE 3)) (pureE [])))))))))
theorem sc_done : FnScope ["deed", "a", "b", "fallen"] ["deed", "a", "b"] (defScope (top 31)) := ⟨rfl, rfl, rfl, by decide +kernel, rfl, by decide +kernel, by decide +kernel⟩
def m_done : List D → AH → R D := runF 4 b_done
def b__law_cell_at : S1 := (seqS (ifS (valT (opE (intD ltF) (varE 1) (callE (un1 lenD) (consE (varE 0) (pureE []))))) (retS (opE ixD (varE 0) (varE 1))) nopS) (seqS (ifS (valT (opE (eqD false) (varE 0) (pureL (dispE (pureE []))))) (retS (opE (intD mulF) (varE 1) (pureE (.int 48271)))) nopS) (retS (opE (intD modF) (opE (intD mulF) (opE addD (opE ixD (varE 0) (opE (intD modF) (varE 1) (callE (un1 lenD) (consE (varE 0) (pureE []))))) (varE 1)) (pureE (.int 48271))) (pureE (.int 2147483647))))))
theorem sc__law_cell_at : FnScope ["_law_script", "_law_k"] ["_law_script", "_law_k"] (defScope (top 33)) := ⟨rfl, rfl, rfl, by decide +kernel, rfl, by decide +kernel, by decide +kernel⟩
def m__law_cell_at : List D → AH → R D := runF 2 b__law_cell_at
def b__law_numbers : S1 := (seqS (setS 2 (varE 0)) (seqS (ifS (valT (opE (intD ltF) (varE 0) (opE (intD powF) (pureE (.int 10)) (pureE (.int 18))))) (setS 2 (opE (intD fdivF) (opE (intD powF) (opE addD (opE (intD mulF) (opE (intD modF) (varE 0) (pureE (.int 2147483647))) (pureE (.int 48271))) (pureE (.int 12345))) (pureE (.int 5))) (pureE (.int 1013)))) nopS) (seqS (setS 3 (newL (dispE (pureE [])))) (seqS (forS (seqE (varE 1)) (gN 1) (seqS (dropS (appL (varE 3) (opE (intD modF) (callE (un1 intC) (consE (varE 2) (pureE []))) (varE 1)))) (setS 2 (opE (intD fdivF) (varE 2) (varE 1))))) (retS (varE 3))))))
theorem sc__law_numbers : FnScope ["_law_cell", "_law_limits", "_law_rest", "_law_found"] ["_law_cell", "_law_limits"] (defScope (top 34)) := ⟨rfl, rfl, rfl, by decide +kernel, rfl, by decide +kernel, by decide +kernel⟩
def m__law_numbers : List D → AH → R D := runF 4 b__law_numbers
def b__law_by : S1 := (retS (ifE (valT (opE (eqD true) (varE 0) (pureL (dispE (pureE []))))) (opE (intD modF) (callE (un1 intC) (consE (popAtE (varE 0) (pureE (.int 0))) (pureE []))) (varE 1)) (pureE (.int 0))))
theorem sc__law_by : FnScope ["_law_draws_here", "_law_many"] ["_law_draws_here", "_law_many"] (defScope (top 35)) := ⟨rfl, rfl, rfl, by decide +kernel, rfl, by decide +kernel, by decide +kernel⟩
def m__law_by : List D → AH → R D := runF 2 b__law_by
def b__law_draws : S1 := (seqS (setS 3 (newL (dispE (pureE [])))) (seqS (forS (rng1E (varE 2)) (gN 4) (setS 3 (newL (catN (varE 3) (callF m__law_numbers (consE (callF m__law_cell_at (consE (varE 0) (consE (opE addD (varE 1) (varE 4)) (pureE [])))) (consE (pureL (dispE (consE (pureE (.int 120)) (consE (pureE (.int 120)) (consE (pureE (.int 120)) (consE (pureE (.int 120)) (consE (pureE (.int 120)) (consE (pureE (.int 120)) (pureE []))))))))) (pureE [])))))))) (retS (varE 3))))
theorem sc__law_draws : FnScope ["_law_script", "_law_at", "_law_many", "_law_found", "_law_k"] ["_law_script", "_law_at", "_law_many"] (defScope (top 36)) := ⟨rfl, rfl, rfl, by decide +kernel, rfl, by decide +kernel, by decide +kernel⟩
def m__law_draws : List D → AH → R D := runF 5 b__law_draws
def b__law_kind : S1 := (retS (ifE (valT (isiE .tuple (varE 0))) (pureE (.int 2)) (ifE (valT (isiE .str (varE 0))) (pureE (.int 1)) (pureE (.int 0)))))
theorem sc__law_kind : FnScope ["_law_w"] ["_law_w"] (defScope (top 37)) := ⟨rfl, rfl, rfl, by decide +kernel, rfl, by decide +kernel, by decide +kernel⟩
def m__law_kind : List D → AH → R D := runF 1 b__law_kind
def b__law_sum : S1 := (seqS (ifS (orT (valT (opE (eqD true) (callF m__law_kind (consE (varE 1) (pureE []))) (pureE (.int 0)))) (andT (valT (opE (eqD true) (varE 0) (pureE (.str "half")))) (valT (opE (eqD true) (callF m__law_kind (consE (varE 2) (pureE []))) (pureE (.int 0)))))) (retS (tupE (consE (pureE (.str "fall")) (consE (pureE (.str "kind")) (pureE []))))) nopS) (seqS (ifS (valT (opE (eqD false) (varE 0) (pureE (.str "less")))) (retS (tupE (consE (pureE (.str "worth")) (consE (ifE (valT (opE (intD ltF) (varE 1) (varE 2))) (pureE (.int 1)) (pureE (.int 0))) (pureE []))))) nopS) (seqS (setS 3 (ifE (valT (opE (eqD false) (varE 0) (pureE (.str "half")))) (opE (intD fdivF) (varE 1) (pureE (.int 2))) (ifE (valT (opE (eqD false) (varE 0) (pureE (.str "plus")))) (opE addD (varE 1) (varE 2)) (opE (intD subF) (varE 1) (varE 2))))) (retS (ifE (valT (chE (intD leF) (intD leF) (unE negD (pureE (.int 9999))) (varE 3) (pureE (.int 9999)))) (tupE (consE (pureE (.str "worth")) (consE (varE 3) (pureE [])))) (tupE (consE (pureE (.str "fall")) (consE (pureE (.str "big")) (pureE [])))))))))
theorem sc__law_sum : FnScope ["_law_deed_here", "_law_a", "_law_b", "_law_found"] ["_law_deed_here", "_law_a", "_law_b"] (defScope (top 38)) := ⟨rfl, rfl, rfl, by decide +kernel, rfl, by decide +kernel, by decide +kernel⟩
def m__law_sum : List D → AH → R D := runF 4 b__law_sum
def b__law_two : S1 := (seqS (ifS (orT (valT (opE (eqD true) (callF m__law_kind (consE (varE 1) (pureE []))) (pureE (.int 2)))) (andT (valT (opE (inD false) (varE 0) (tupE (consE (pureE (.str "union")) (consE (pureE (.str "counts")) (pureE [])))))) (valT (opE (eqD true) (callF m__law_kind (consE (varE 2) (pureE []))) (pureE (.int 2)))))) (retS (tupE (consE (pureE (.str "fall")) (consE (pureE (.str "kind")) (pureE []))))) nopS) (seqS (ifS (valT (opE (eqD false) (varE 0) (pureE (.str "spread")))) (retS (tupE (consE (pureE (.str "worth")) (consE (callE (un1 tupC) (consE (pureL (compE [4] (seqE (varE 1)) (gN 4) yesE (tupE (consE (varE 4) (consE (varE 2) (pureE [])))))) (pureE []))) (pureE []))))) nopS) (seqS (setS 3 (newL (catN (pureL (listN (varE 1))) (ifE (valT (opE (eqD false) (varE 0) (pureE (.str "add")))) (pureL (dispE (consE (varE 2) (pureE [])))) (pureL (dispE (pureE []))))))) (seqS (ifS (valT (opE (eqD false) (varE 0) (pureE (.str "counts")))) (retS (tupE (consE (pureE (.str "worth")) (consE (callE (un1 tupC) (consE (pureL (compE [4] (seqE (varE 2)) (gN 4) yesE (indexL (opE addD (pureL (listN (varE 1))) (pureL (dispE (consE (varE 4) (pureE []))))) (varE 4)))) (pureE []))) (pureE []))))) nopS) (seqS (ifS (valT (opE (eqD false) (varE 0) (pureE (.str "union")))) (forS (seqE (varE 2)) (gN 4) (ifS (valT (opE (inD true) (varE 4) (varE 3))) (dropS (appL (varE 3) (varE 4))) nopS)) nopS) (retS (ifE (valT (opE (intD leF) (callE (un1 lenD) (consE (varE 3) (pureE []))) (pureE (.int 5000)))) (tupE (consE (pureE (.str "worth")) (consE (callE (un1 tupC) (consE (varE 3) (pureE []))) (pureE [])))) (tupE (consE (pureE (.str "fall")) (consE (pureE (.str "big")) (pureE [])))))))))))
theorem sc__law_two : FnScope ["_law_deed_here", "_law_a", "_law_b", "_law_found", "_law_one_here"] ["_law_deed_here", "_law_a", "_law_b"] (defScope (top 39)) := ⟨rfl, rfl, rfl, by decide +kernel, rfl, by decide +kernel, by decide +kernel⟩
def m__law_two : List D → AH → R D := runF 5 b__law_two
def b__law_one : S1 := (seqS (ifS (orT (valT (opE (eqD true) (callF m__law_kind (consE (varE 1) (pureE []))) (pureE (.int 2)))) (andT (valT (opE (eqD false) (varE 0) (pureE (.str "at")))) (valT (opE (eqD true) (callF m__law_kind (consE (varE 2) (pureE []))) (pureE (.int 0)))))) (retS (tupE (consE (pureE (.str "fall")) (consE (pureE (.str "kind")) (pureE []))))) nopS) (seqS (ifS (valT (opE (eqD false) (varE 0) (pureE (.str "many")))) (retS (tupE (consE (pureE (.str "worth")) (consE (callE (un1 lenD) (consE (varE 1) (pureE []))) (pureE []))))) nopS) (seqS (ifS (andT (valT (opE (eqD false) (varE 0) (pureE (.str "put")))) (orT (valT (opE (eqD true) (callF m__law_kind (consE (varE 2) (pureE []))) (pureE (.int 2)))) (orT (valT (opE (eqD true) (callE (un1 lenD) (consE (varE 2) (pureE []))) (pureE (.int 2)))) (valT (opE (eqD true) (callF m__law_kind (consE (opE ixD (varE 2) (pureE (.int 0))) (pureE []))) (pureE (.int 0))))))) (retS (tupE (consE (pureE (.str "fall")) (consE (pureE (.str "kind")) (pureE []))))) nopS) (seqS (setS 3 (ifE (valT (opE (eqD false) (varE 0) (pureE (.str "at")))) (varE 2) (opE ixD (varE 2) (pureE (.int 0))))) (seqS (ifS (notT (valT (chE (intD leF) (intD ltF) (pureE (.int 0)) (varE 3) (callE (un1 lenD) (consE (varE 1) (pureE [])))))) (retS (tupE (consE (pureE (.str "fall")) (consE (pureE (.str "out")) (pureE []))))) nopS) (retS (tupE (consE (pureE (.str "worth")) (consE (ifE (valT (opE (eqD false) (varE 0) (pureE (.str "at")))) (opE ixD (varE 1) (varE 3)) (opE addD (opE addD (slE (varE 1) (pureE none) (partE (varE 3))) (tupE (consE (opE ixD (varE 2) (pureE (.int 1))) (pureE [])))) (slE (varE 1) (partE (opE addD (varE 3) (pureE (.int 1)))) (pureE none)))) (pureE []))))))))))
theorem sc__law_one : FnScope ["_law_deed_here", "_law_a", "_law_b", "_law_count"] ["_law_deed_here", "_law_a", "_law_b"] (defScope (top 40)) := ⟨rfl, rfl, rfl, by decide +kernel, rfl, by decide +kernel, by decide +kernel⟩
def m__law_one : List D → AH → R D := runF 4 b__law_one
def b__law_fill : S1 := (seqS (ifS (orT (valT (opE (eqD true) (callF m__law_kind (consE (varE 0) (pureE []))) (pureE (.int 2)))) (valT (opE (eqD true) (callF m__law_kind (consE (varE 1) (pureE []))) (pureE (.int 2))))) (retS (tupE (consE (pureE (.str "fall")) (consE (pureE (.str "kind")) (pureE []))))) nopS) (seqS (setS 2 (pureL (compE [3, 4] (enumE' (varE 0)) (gTu [(gN 3), (gN 4)]) (andT (valT (opE (eqD false) (callF m__law_kind (consE (varE 4) (pureE []))) (pureE (.int 2)))) (andT (valT (opE (eqD false) (callE (un1 lenD) (consE (varE 4) (pureE []))) (pureE (.int 2)))) (valT (opE (eqD false) (opE ixD (varE 4) (pureE (.int 0))) (pureE (.str "e")))))) (varE 3)))) (seqS (ifS (notT (valT (callE (un1 (allC false)) (consE (pureL (compE [3] (seqE (varE 2)) (gN 3) yesE (opE (eqD false) (callF m__law_kind (consE (opE ixD (opE ixD (varE 0) (varE 3)) (pureE (.int 1))) (pureE []))) (pureE (.int 0))))) (pureE []))))) (retS (tupE (consE (pureE (.str "fall")) (consE (pureE (.str "kind")) (pureE []))))) nopS) (seqS (ifS (notT (valT (callE (un1 (allC false)) (consE (pureL (compE [3] (seqE (varE 2)) (gN 3) yesE (chE (intD leF) (intD ltF) (pureE (.int 0)) (opE ixD (opE ixD (varE 0) (varE 3)) (pureE (.int 1))) (callE (un1 lenD) (consE (varE 1) (pureE [])))))) (pureE []))))) (retS (tupE (consE (pureE (.str "fall")) (consE (pureE (.str "out")) (pureE []))))) nopS) (retS (tupE (consE (pureE (.str "worth")) (consE (callE (un1 tupC) (consE (pureL (compE [3, 4] (enumE' (varE 0)) (gTu [(gN 3), (gN 4)]) yesE (ifE (valT (opE (inD false) (varE 3) (varE 2))) (tupE (consE (pureE (.str "c")) (consE (opE ixD (varE 1) (opE ixD (varE 4) (pureE (.int 1)))) (pureE [])))) (varE 4)))) (pureE []))) (pureE [])))))))))
theorem sc__law_fill : FnScope ["_law_a", "_law_b", "_law_spots", "_law_at", "_law_one_here"] ["_law_a", "_law_b"] (defScope (top 41)) := ⟨rfl, rfl, rfl, by decide +kernel, rfl, by decide +kernel, by decide +kernel⟩
def m__law_fill : List D → AH → R D := runF 5 b__law_fill
def b__law_is_pair : S1 := (retS (andE (opE (eqD false) (callF m__law_kind (consE (varE 0) (pureE []))) (pureE (.int 2))) (andE (opE (eqD false) (callE (un1 lenD) (consE (varE 0) (pureE []))) (pureE (.int 2))) (opE (eqD false) (opE ixD (varE 0) (pureE (.int 0))) (pureE (.str "c"))))))
theorem sc__law_is_pair : FnScope ["_law_one_here"] ["_law_one_here"] (defScope (top 42)) := ⟨rfl, rfl, rfl, by decide +kernel, rfl, by decide +kernel, by decide +kernel⟩
def m__law_is_pair : List D → AH → R D := runF 1 b__law_is_pair
def b__law_words : S1 := (seqS (setS 0 (pureL (dispE (consE (pureE (.str "copy")) (consE (pureE (.str "plus")) (consE (pureE (.str "minus")) (consE (pureE (.str "half")) (consE (pureE (.str "less")) (consE (pureE (.str "same")) (consE (pureE (.str "kind")) (consE (pureE (.str "many")) (consE (pureE (.str "at")) (consE (pureE (.str "add")) (consE (pureE (.str "put")) (consE (pureE (.str "pair")) (pureE [])))))))))))))))) (retS (opE addD (varE 0) (pureL (dispE (consE (pureE (.str "union")) (consE (pureE (.str "counts")) (consE (pureE (.str "spread")) (consE (pureE (.str "fill")) (consE (pureE (.str "do")) (consE (pureE (.str "falls")) (pureE []))))))))))))
theorem sc__law_words : FnScope ["_law_some"] [] (defScope (top 44)) := ⟨rfl, rfl, rfl, by decide +kernel, rfl, by decide +kernel, by decide +kernel⟩
def m__law_words : List D → AH → R D := runF 1 b__law_words
def b__law_deed (r__law_deed : List D → AH → R D) : S1 := (seqS (ifS (valT (opE (inD false) (varE 0) (tupE (consE (pureE (.str "plus")) (consE (pureE (.str "minus")) (consE (pureE (.str "half")) (consE (pureE (.str "less")) (pureE [])))))))) (retS (callF m__law_sum (consE (varE 0) (consE (varE 1) (consE (varE 2) (pureE [])))))) nopS) (seqS (ifS (valT (opE (inD false) (varE 0) (tupE (consE (pureE (.str "many")) (consE (pureE (.str "at")) (consE (pureE (.str "put")) (pureE []))))))) (retS (callF m__law_one (consE (varE 0) (consE (varE 1) (consE (varE 2) (pureE [])))))) nopS) (seqS (ifS (valT (opE (inD false) (varE 0) (tupE (consE (pureE (.str "add")) (consE (pureE (.str "union")) (consE (pureE (.str "counts")) (consE (pureE (.str "spread")) (pureE [])))))))) (retS (callF m__law_two (consE (varE 0) (consE (varE 1) (consE (varE 2) (pureE [])))))) nopS) (seqS (ifS (valT (opE (eqD false) (varE 0) (pureE (.str "fill")))) (retS (callF m__law_fill (consE (varE 1) (consE (varE 2) (pureE []))))) nopS) (seqS (ifS (valT (opE (inD false) (varE 0) (tupE (consE (pureE (.str "do")) (consE (pureE (.str "falls")) (pureE [])))))) (seqS (ifS (orT (valT (opE (eqD true) (callF m__law_kind (consE (varE 1) (pureE []))) (pureE (.int 1)))) (orT (valT (opE (inD true) (varE 1) (fun _ h => m__law_words [] h))) (orT (notT (valT (opE (eqD false) (callF m__law_kind (consE (varE 2) (pureE []))) (pureE (.int 2))))) (valT (opE (eqD true) (callE (un1 lenD) (consE (varE 2) (pureE []))) (pureE (.int 2))))))) (retS (tupE (consE (pureE (.str "fall")) (consE (pureE (.str "kind")) (pureE []))))) nopS) (seqS (ifS (orT (notT (valT (callF m__law_is_pair (consE (opE ixD (varE 2) (pureE (.int 0))) (pureE []))))) (notT (valT (callF m__law_is_pair (consE (opE ixD (varE 2) (pureE (.int 1))) (pureE [])))))) (retS (tupE (consE (pureE (.str "fall")) (consE (pureE (.str "kind")) (pureE []))))) nopS) (seqS (setS 3 (callF r__law_deed (consE (varE 1) (consE (opE ixD (opE ixD (varE 2) (pureE (.int 0))) (pureE (.int 1))) (consE (opE ixD (opE ixD (varE 2) (pureE (.int 1))) (pureE (.int 1))) (pureE [])))))) (seqS (ifS (valT (opE (eqD false) (varE 0) (pureE (.str "do")))) (retS (varE 3)) nopS) (retS (tupE (consE (pureE (.str "worth")) (consE (ifE (valT (opE (eqD false) (opE ixD (varE 3) (pureE (.int 0))) (pureE (.str "fall")))) (opE ixD (varE 3) (pureE (.int 1))) (pureE (.int 0))) (pureE []))))))))) nopS) (seqS (ifS (valT (opE (eqD false) (varE 0) (pureE (.str "same")))) (retS (tupE (consE (pureE (.str "worth")) (consE (ifE (valT (opE (eqD false) (varE 1) (varE 2))) (pureE (.int 1)) (pureE (.int 0))) (pureE []))))) nopS) (retS (tupE (consE (pureE (.str "worth")) (consE (dgetE (dispD [((pureE (.str "pair")), (tupE (consE (varE 1) (consE (varE 2) (pureE []))))), ((pureE (.str "copy")), (varE 1)), ((pureE (.str "kind")), (callF m__law_kind (consE (varE 1) (pureE []))))]) (varE 0)) (pureE [])))))))))))
theorem sc__law_deed : FnScope ["_law_deed_here", "_law_a", "_law_b", "_law_found"] ["_law_deed_here", "_law_a", "_law_b"] (defScope (top 43)) := ⟨rfl, rfl, rfl, by decide +kernel, rfl, by decide +kernel, by decide +kernel⟩
def l__law_deed : Nat → List D → AH → R D
  | 0 => fun _ _ => .stuck
  | k + 1 => runF 4 (b__law_deed (l__law_deed k))
def m__law_deed : List D → AH → R D := l__law_deed 24
def b__law_worth (r__law_worth : List D → AH → R D) : S1 := (seqS (setS 2 (callF m__law_by (consE (varE 0) (consE (pureE (.int 12)) (pureE []))))) (seqS (ifS (orT (valT (opE (intD ltF) (varE 2) (pureE (.int 5)))) (andT (valT (opE (eqD false) (varE 1) (pureE (.int 0)))) (valT (opE (intD gtF) (varE 2) (pureE (.int 7)))))) (retS (opE ixD (pureL (dispE (consE (pureE (.int 0)) (consE (pureE (.int 1)) (consE (pureE (.int 2)) (consE (unE negD (pureE (.int 1))) (consE (pureE (.int 9999)) (consE (unE negD (pureE (.int 9999))) (consE (pureE (.int 7)) (pureE [])))))))))) (callF m__law_by (consE (varE 0) (consE (pureE (.int 7)) (pureE [])))))) nopS) (seqS (ifS (valT (opE (intD ltF) (varE 2) (pureE (.int 8)))) (retS (opE ixD (pureL (dispE (consE (pureE (.str "a")) (consE (pureE (.str "e")) (consE (pureE (.str "c")) (consE (pureE (.str "plus")) (consE (pureE (.str "do")) (consE (pureE (.str "many")) (consE (pureE (.str "abcdefgh")) (consE (pureE (.str "at")) (pureE []))))))))))) (callF m__law_by (consE (varE 0) (consE (pureE (.int 8)) (pureE [])))))) nopS) (seqS (ifS (valT (opE (eqD false) (varE 2) (pureE (.int 8)))) (retS (tupE (consE (opE ixD (pureL (dispE (consE (pureE (.str "c")) (consE (pureE (.str "e")) (pureE []))))) (callF m__law_by (consE (varE 0) (consE (pureE (.int 2)) (pureE []))))) (consE (callF r__law_worth (consE (varE 0) (consE (opE (intD subF) (varE 1) (pureE (.int 1))) (pureE [])))) (pureE []))))) nopS) (seqS (ifS (valT (opE (eqD false) (varE 2) (pureE (.int 9)))) (retS (tupE (consE (tupE (consE (pureE (.str "c")) (consE (callF r__law_worth (consE (varE 0) (consE (opE (intD subF) (varE 1) (pureE (.int 1))) (pureE [])))) (pureE [])))) (consE (tupE (consE (pureE (.str "c")) (consE (callF r__law_worth (consE (varE 0) (consE (opE (intD subF) (varE 1) (pureE (.int 1))) (pureE [])))) (pureE [])))) (pureE []))))) nopS) (retS (callE (un1 tupC) (consE (pureL (compE [3] (rng1E (callF m__law_by (consE (varE 0) (consE (pureE (.int 4)) (pureE []))))) (gN 3) yesE (callF r__law_worth (consE (varE 0) (consE (opE (intD subF) (varE 1) (pureE (.int 1))) (pureE [])))))) (pureE [])))))))))
theorem sc__law_worth : FnScope ["_law_draws_here", "_law_deep", "_law_kind_here", "_law_at"] ["_law_draws_here", "_law_deep"] (defScope (top 45)) := ⟨rfl, rfl, rfl, by decide +kernel, rfl, by decide +kernel, by decide +kernel⟩
def l__law_worth : Nat → List D → AH → R D
  | 0 => fun _ _ => .stuck
  | k + 1 => runF 4 (b__law_worth (l__law_worth k))
def m__law_worth : List D → AH → R D := l__law_worth 6
def b__law_fit (r__law_fit : List D → AH → R D) : S1 := (seqS (par3 2 3 4 (consE (callF m__law_worth (consE (varE 0) (consE (pureE (.int 2)) (pureE [])))) (consE (callF m__law_worth (consE (varE 0) (consE (pureE (.int 2)) (pureE [])))) (consE (callF m__law_by (consE (varE 0) (consE (pureE (.int 5)) (pureE [])))) (pureE []))))) (seqS (setS 5 (callE (un1 tupC) (consE (pureL (compE [9] (rng1E (opE addD (pureE (.int 1)) (callF m__law_by (consE (varE 0) (consE (pureE (.int 4)) (pureE [])))))) (gN 9) yesE (callF m__law_worth (consE (varE 0) (consE (pureE (.int 1)) (pureE [])))))) (pureE [])))) (seqS (ifS (valT (opE (eqD false) (varE 4) (pureE (.int 0)))) (retS (tupE (consE (varE 2) (consE (varE 3) (pureE []))))) nopS) (seqS (ifS (valT (opE (inD false) (varE 1) (tupE (consE (pureE (.str "plus")) (consE (pureE (.str "minus")) (consE (pureE (.str "half")) (consE (pureE (.str "less")) (consE (pureE (.str "same")) (pureE []))))))))) (retS (tupE (consE (opE ixD (pureL (dispE (consE (pureE (.int 9999)) (consE (pureE (.int 5000)) (consE (unE negD (pureE (.int 5000))) (consE (unE negD (pureE (.int 9999))) (consE (pureE (.int 3)) (consE (pureE (.int 0)) (pureE []))))))))) (callF m__law_by (consE (varE 0) (consE (pureE (.int 6)) (pureE []))))) (consE (opE ixD (pureL (dispE (consE (pureE (.int 9999)) (consE (pureE (.int 1)) (consE (unE negD (pureE (.int 1))) (consE (pureE (.int 4999)) (consE (unE negD (pureE (.int 4999))) (consE (pureE (.int 0)) (pureE []))))))))) (callF m__law_by (consE (varE 0) (consE (pureE (.int 6)) (pureE []))))) (pureE []))))) nopS) (seqS (ifS (valT (opE (inD false) (varE 1) (tupE (consE (pureE (.str "do")) (consE (pureE (.str "falls")) (pureE [])))))) (seqS (setS 6 (opE ixD (fun _ h => m__law_words [] h) (callF m__law_by (consE (varE 0) (consE (pureE (.int 18)) (pureE [])))))) (seqS (asgS (gTu [(gN 7), (gN 8)]) (ifE (valT (opE (inD true) (varE 6) (tupE (consE (pureE (.str "do")) (consE (pureE (.str "falls")) (pureE [])))))) (callF r__law_fit (consE (varE 0) (consE (varE 6) (pureE [])))) (tupE (consE (varE 2) (consE (varE 3) (pureE [])))))) (retS (tupE (consE (varE 6) (consE (tupE (consE (tupE (consE (pureE (.str "c")) (consE (varE 7) (pureE [])))) (consE (tupE (consE (pureE (.str "c")) (consE (varE 8) (pureE [])))) (pureE [])))) (pureE []))))))) nopS) (seqS (ifS (valT (opE (eqD false) (varE 1) (pureE (.str "fill")))) (seqS (setS 5 (opE addD (varE 5) (tupE (consE (tupE (consE (pureE (.str "e")) (consE (opE (intD subF) (callF m__law_by (consE (varE 0) (consE (pureE (.int 6)) (pureE [])))) (pureE (.int 1))) (pureE [])))) (consE (tupE (consE (pureE (.str "c")) (consE (varE 2) (pureE [])))) (pureE [])))))) (retS (tupE (consE (varE 5) (consE (callE (un1 tupC) (consE (pureL (repN (pureL (dispE (consE (varE 3) (pureE [])))) (callF m__law_by (consE (varE 0) (consE (pureE (.int 5)) (pureE [])))))) (pureE []))) (pureE [])))))) nopS) (seqS (ifS (valT (opE (eqD false) (varE 1) (pureE (.str "put")))) (retS (tupE (consE (varE 5) (consE (tupE (consE (opE (intD subF) (callF m__law_by (consE (varE 0) (consE (pureE (.int 6)) (pureE [])))) (pureE (.int 1))) (consE (varE 3) (pureE [])))) (pureE []))))) nopS) (retS (tupE (consE (varE 5) (consE (ifE (valT (opE (eqD false) (varE 1) (pureE (.str "at")))) (opE (intD subF) (callF m__law_by (consE (varE 0) (consE (pureE (.int 6)) (pureE [])))) (pureE (.int 1))) (ifE (valT (opE (eqD false) (varE 4) (pureE (.int 1)))) (opE addD (slE (varE 5) (pureE none) (partE (pureE (.int 1)))) (tupE (consE (varE 3) (consE (varE 3) (pureE []))))) (varE 3))) (pureE []))))))))))))
theorem sc__law_fit : FnScope ["_law_draws_here", "_law_deed_here", "_law_one_here", "_law_other", "_law_turn", "_law_some", "_law_word", "_law_first", "_law_second", "_law_at"] ["_law_draws_here", "_law_deed_here"] (defScope (top 46)) := ⟨rfl, rfl, rfl, by decide +kernel, rfl, by decide +kernel, by decide +kernel⟩
def l__law_fit : Nat → List D → AH → R D
  | 0 => fun _ _ => .stuck
  | k + 1 => runF 10 (b__law_fit (l__law_fit k))
def m__law_fit : List D → AH → R D := l__law_fit 4
def b__law_all_right : S1 := (seqS (forS (rng1E (pureE (.int 2))) (gN 1) (forS (enumE' (fun _ h => m__law_words [] h)) (gTu [(gN 2), (gN 3)]) (seqS (asgS (gTu [(gN 4), (gN 5)]) (callF m__law_fit (consE (callF m__law_draws (consE (varE 0) (consE (opE addD (opE (intD mulF) (pureE (.int 60)) (varE 1)) (opE (intD mulF) (pureE (.int 3)) (varE 2))) (consE (pureE (.int 5)) (pureE []))))) (consE (varE 3) (pureE []))))) (seqS (ifS (orT (notT (valT (callF m_is_worth (consE (varE 4) (pureE []))))) (notT (valT (callF m_is_worth (consE (varE 5) (pureE [])))))) (retS (pureE (.bl false))) nopS) (ifS (valT (opE (eqD true) (callF m_done (consE (varE 3) (consE (varE 4) (consE (varE 5) (pureE []))))) (callF m__law_deed (consE (varE 3) (consE (varE 4) (consE (varE 5) (pureE []))))))) (retS (pureE (.bl false))) nopS))))) (seqS (setS 6 (callF m__law_cell_at (consE (varE 0) (consE (pureE (.int 120)) (pureE []))))) (seqS (setS 7 (tupRgE (opE addD (pureE (.int 4998)) (opE (intD modF) (varE 6) (pureE (.int 3)))))) (seqS (setS 8 (pureL (dispE (consE (tupE (consE (pureE (.str "add")) (consE (pureE (.str "a")) (pureE [])))) (consE (tupE (consE (pureE (.str "union")) (consE (tupE (consE (pureE (.str "a")) (consE (pureE (.str "b")) (consE (pureE (.int 5)) (pureE []))))) (pureE [])))) (consE (tupE (consE (pureE (.str "at")) (consE (pureE (.int 4999)) (pureE [])))) (consE (tupE (consE (pureE (.str "put")) (consE (tupE (consE (pureE (.int 4998)) (consE (pureE (.str "a")) (pureE [])))) (pureE [])))) (pureE [])))))))) (seqS (setS 8 (opE addD (varE 8) (pureL (dispE (consE (tupE (consE (pureE (.str "counts")) (consE (tupE (consE (pureE (.int 4999)) (consE (pureE (.int 1)) (consE (pureE (.str "a")) (pureE []))))) (pureE [])))) (consE (tupE (consE (pureE (.str "many")) (consE (pureE (.int 0)) (pureE [])))) (pureE []))))))) (seqS (forS (seqE (varE 8)) (gTu [(gN 3), (gN 9)]) (ifS (valT (opE (eqD true) (callF m_done (consE (varE 3) (consE (varE 7) (consE (varE 9) (pureE []))))) (callF m__law_deed (consE (varE 3) (consE (varE 7) (consE (varE 9) (pureE []))))))) (retS (pureE (.bl false))) nopS)) (seqS (setS 8 (pureL (dispE (consE (pureE (.int 10000)) (consE (unE negD (pureE (.int 10000))) (consE (pureE (.bl true)) (consE (pureE .non) (consE (pureE (.str "")) (consE (pureE (.str "abcdefghi")) (consE (pureE (.str "A")) (consE (pureE (.str "a1")) (consE (pureL (dispE (consE (pureE (.int 1)) (pureE [])))) (consE (tupE (consE (pureE .non) (pureE []))) (consE (tupE (consE (pureE (.int 1)) (consE (tupE (consE (pureE (.bl true)) (pureE []))) (pureE [])))) (pureE []))))))))))))))) (seqS (setS 8 (opE addD (varE 8) (pureL (dispE (consE (tupRgE (pureE (.int 5001))) (consE (newD []) (pureE []))))))) (seqS (forS (seqE (varE 8)) (gN 10) (seqS (ifS (valT (callF m_is_worth (consE (varE 10) (pureE [])))) (retS (pureE (.bl false))) nopS) (forS (seqE (pureL (dispE (consE (tupE (consE (varE 10) (consE (pureE (.int 0)) (pureE [])))) (consE (tupE (consE (pureE (.int 0)) (consE (varE 10) (pureE [])))) (pureE [])))))) (gN 11) (tryOnly mt_BadWorth (seqS (dropS (callF m_done (consE (pureE (.str "pair")) (consE (opE ixD (varE 11) (pureE (.int 0))) (consE (opE ixD (varE 11) (pureE (.int 1))) (pureE [])))))) (retS (pureE (.bl false)))) (fun y => cntS))))) (seqS (forS (seqE (pureL (dispE (consE (pureE (.str "")) (consE (pureE (.str "far")) (consE (pureE .non) (consE (pureE (.int 5)) (consE (pureE (.str "Copy")) (consE (tupE (pureE [])) (pureE [])))))))))) (gN 12) (tryOnly mt_BadDeed (seqS (dropS (callF m_done (consE (varE 12) (consE (pureE .non) (consE (pureE .non) (pureE [])))))) (retS (pureE (.bl false)))) (fun y => cntS))) (retS (andE (callF m_is_worth (consE (tupE (pureE [])) (pureE []))) (andE (callF m_is_worth (consE (tupRgE (pureE (.int 5000))) (pureE []))) (andE (callF m_is_worth (consE (pureE (.str "abcdefgh")) (pureE []))) (callF m_is_worth (consE (tupE (consE (unE negD (pureE (.int 9999))) (consE (tupE (consE (pureE (.str "a")) (consE (tupE (pureE [])) (pureE [])))) (pureE [])))) (pureE [])))))))))))))))))
theorem sc__law_all_right : FnScope ["_law_script", "_law_k", "_law_at", "_law_deed_here", "_law_one_here", "_law_other", "_law_cell", "_law_many", "_law_lots", "_law_more", "_law_bad", "_law_pair", "_law_word"] ["_law_script"] (defScope (top 47)) := ⟨rfl, rfl, rfl, by decide +kernel, rfl, by decide +kernel, by decide +kernel⟩
def m__law_all_right : List D → AH → R D := runF 13 b__law_all_right
def b_law : S1 := (tryOnly mt_LeadError (retS (callF m__law_all_right (consE (varE 0) (pureE [])))) (fun y => (retS (pureE (.bl false)))))
theorem sc_law : FnScope ["_law_script"] ["_law_script"] (defScope (top 48)) := ⟨rfl, rfl, rfl, by decide +kernel, rfl, by decide +kernel, by decide +kernel⟩
def m_law : List D → AH → R D := runF 1 b_law
theorem ok_is_number {P : Program} {w : World} {K : PySem.W.Frag} {mg : Str → Option Value} {base : Heap} {k : Nat} (T : Tx K mg) (hL : 0 ≤ k) : Fk P w K mg base (k + 1) "is_number" ["thing"] (runF 1 (b_is_number)) := by
  exact fk_ok (N := ["thing"]) T.d_is_number sc_is_number fun f cdv A outer s H E hr tk hp =>
    (ss_one (s_ret (e_and (e_isi .int (by decide) T.fr_isinstance T.fr_int bb_int (e_var 0)) (e_and (e_not (e_isi .bool (by decide) T.fr_isinstance T.fr_bool bb_bool (e_var 0))) (e_one (e_chain op_le oa_le op_le oa_le (e_neg (e_gint T.k_MOST_NUMBER)) (e_var 0) (e_gint T.k_MOST_NUMBER)))))))
theorem f_is_number {P : Program} {w : World} {K : PySem.W.Frag} {mg : Str → Option Value} {base : Heap} (T : Tx K mg) : Fk P w K mg base 1 "is_number" ["thing"] m_is_number := ok_is_number T (Nat.le_refl _)
theorem ok_is_word {P : Program} {w : World} {K : PySem.W.Frag} {mg : Str → Option Value} {base : Heap} {k : Nat} (T : Tx K mg) (hL : 0 ≤ k) : Fk P w K mg base (k + 1) "is_word" ["thing"] (runF 2 (b_is_word)) := by
  exact fk_ok (N := ["thing", "sign"]) T.d_is_word sc_is_word fun f cdv A outer s H E hr tk hp =>
    (ss_one (s_ret (e_and (e_isi .str (by decide) T.fr_isinstance T.fr_str bb_str (e_var 0)) (e_and (e_chain op_le oa_le op_le oa_le e_int (e_len T.fr_len (a_cons (e_var 0) a_nil)) (e_gint T.k_MOST_LETTERS)) (e_one (e_all T.fr_all (a_cons (n_pure (e_lc (own := [("sign", 1)]) sc_is_word.nd (i_seq (e_var 0)) (blk_of (by kernel_rfl)) (fun s H C cl fp => (g_name sc_is_word.nd)) (fun s H C cl fp => t_yes s H C cl fp _) (fun s H C cl fp => (e_cmp (op_inP (u65 hr)) oa_in (e_var 1) (e_gstr T.k_LETTERS))))) a_nil)))))))
theorem f_is_word {P : Program} {w : World} {K : PySem.W.Frag} {mg : Str → Option Value} {base : Heap} (T : Tx K mg) : Fk P w K mg base 1 "is_word" ["thing"] m_is_word := ok_is_word T (Nat.le_refl _)
theorem ok_is_within {P : Program} {w : World} {K : PySem.W.Frag} {mg : Str → Option Value} {base : Heap} {k : Nat} (T : Tx K mg) (hL : 1 ≤ k) {r_is_within : List D → AH → R D} (F_is_within : Fk P w K mg base k "is_within" ["thing", "room"] r_is_within) : Fk P w K mg base (k + 1) "is_within" ["thing", "room"] (runF 3 (b_is_within r_is_within)) := by
  have F_is_number := f_is_number (P := P) (w := w) (base := base) T
  have F_is_word := f_is_word (P := P) (w := w) (base := base) T
  exact fk_ok (N := ["thing", "room", "one"]) T.d_is_within sc_is_within fun f cdv A outer s H E hr tk hp =>
    (ss_cons (s_if (t_val (e_isi .tuple (by decide) T.fr_isinstance T.fr_tuple bb_tuple (e_var 0))) (ss_one (s_ret (e_and (e_cmp op_gt oa_gt (e_var 1) e_int) (e_and (e_cmp op_le oa_le (e_len T.fr_len (a_cons (e_var 0) a_nil)) (e_gint T.k_MOST_MEMBERS)) (e_one (e_all T.fr_all (a_cons (n_pure (e_lc (own := [("one", 2)]) sc_is_within.nd (i_seq (e_var 0)) (blk_of (by kernel_rfl)) (fun s H C cl fp => (g_name sc_is_within.nd)) (fun s H C cl fp => t_yes s H C cl fp _) (fun s H C cl fp => (e_callF F_is_within hr (Nat.le_refl _) takes0 (a_cons (e_var 2) (a_cons (e_op op_sub oa_sub (e_var 1) e_int) a_nil)) (len_cons (len_cons len_nil)))))) a_nil))))))) ss_nil)
    (ss_one (s_ret (e_and (e_cmp op_gt oa_gt (e_var 1) e_int) (e_one (e_or (e_callF F_is_number hr (Nat.le_trans (by decide) hL) tk (a_cons (e_var 0) a_nil) (len_cons len_nil)) (e_one (e_callF F_is_word hr (Nat.le_trans (by decide) hL) tk (a_cons (e_var 0) a_nil) (len_cons len_nil)))))))))
theorem g_is_within {P : Program} {w : World} {K : PySem.W.Frag} {mg : Str → Option Value} {base : Heap} (T : Tx K mg) : ∀ n : Nat, Fk P w K mg base (1 + n) "is_within" ["thing", "room"] (l_is_within n)
  | 0 => fk_stuck T.d_is_within
  | n + 1 => by
    have ih := g_is_within (P := P) (w := w) (base := base) T n
    have F_is_within := ih
    exact ok_is_within T (Nat.le_add_right _ _) F_is_within
theorem f_is_within {P : Program} {w : World} {K : PySem.W.Frag} {mg : Str → Option Value} {base : Heap} (T : Tx K mg) : Fk P w K mg base 25 "is_within" ["thing", "room"] m_is_within := (g_is_within T 24)
theorem ok_is_worth {P : Program} {w : World} {K : PySem.W.Frag} {mg : Str → Option Value} {base : Heap} {k : Nat} (T : Tx K mg) (hL : 25 ≤ k) : Fk P w K mg base (k + 1) "is_worth" ["thing"] (runF 1 (b_is_worth)) := by
  have F_is_within := f_is_within (P := P) (w := w) (base := base) T
  exact fk_ok (N := ["thing"]) T.d_is_worth sc_is_worth fun f cdv A outer s H E hr tk hp =>
    (ss_one (s_ret (e_callF F_is_within hr (Nat.le_trans (by decide) hL) tk (a_cons (e_var 0) (a_cons (e_gint T.k_MOST_WITHIN) a_nil)) (len_cons (len_cons len_nil)))))
theorem f_is_worth {P : Program} {w : World} {K : PySem.W.Frag} {mg : Str → Option Value} {base : Heap} (T : Tx K mg) : Fk P w K mg base 26 "is_worth" ["thing"] m_is_worth := ok_is_worth T (Nat.le_refl _)
theorem ok_kind_of {P : Program} {w : World} {K : PySem.W.Frag} {mg : Str → Option Value} {base : Heap} {k : Nat} (T : Tx K mg) (hL : 0 ≤ k) : Fk P w K mg base (k + 1) "kind_of" ["worth"] (runF 1 (b_kind_of)) := by
  exact fk_ok (N := ["worth"]) T.d_kind_of sc_kind_of fun f cdv A outer s H E hr tk hp =>
    (ss_one (s_ret (e_if (t_val (e_isi .tuple (by decide) T.fr_isinstance T.fr_tuple bb_tuple (e_var 0))) e_int (e_if (t_val (e_isi .str (by decide) T.fr_isinstance T.fr_str bb_str (e_var 0))) e_int e_int))))
theorem f_kind_of {P : Program} {w : World} {K : PySem.W.Frag} {mg : Str → Option Value} {base : Heap} (T : Tx K mg) : Fk P w K mg base 1 "kind_of" ["worth"] m_kind_of := ok_kind_of T (Nat.le_refl _)
theorem ok_check_kinds {P : Program} {w : World} {K : PySem.W.Frag} {mg : Str → Option Value} {base : Heap} {k : Nat} (T : Tx K mg) (hL : 1 ≤ k) : Fk P w K mg base (k + 1) "check_kinds" ["worths", "kind"] (runF 3 (b_check_kinds)) := by
  have F_kind_of := f_kind_of (P := P) (w := w) (base := base) T
  obtain ⟨fI, hF⟩ := T.fal
  exact fk_ok (N := ["worths", "kind", "worth"]) T.d_check_kinds sc_check_kinds fun f cdv A outer s H E hr tk hp =>
    (ss_one (s_if (t_val (e_any T.fr_any (a_cons (n_pure (e_lc (own := [("worth", 2)]) sc_check_kinds.nd (i_seq (e_var 0)) (blk_of (by kernel_rfl)) (fun s H C cl fp => (g_name sc_check_kinds.nd)) (fun s H C cl fp => t_yes s H C cl fp _) (fun s H C cl fp => (e_cmp (op_neP (u64 hr)) oa_eq (e_callF F_kind_of hr (Nat.le_trans (by decide) hL) takes0 (a_cons (e_var 2) a_nil) (len_cons len_nil)) (e_var 1))))) a_nil))) (ss_one (s_raiseF hF hr tk e_str)) ss_nil))
theorem f_check_kinds {P : Program} {w : World} {K : PySem.W.Frag} {mg : Str → Option Value} {base : Heap} (T : Tx K mg) : Fk P w K mg base 2 "check_kinds" ["worths", "kind"] m_check_kinds := ok_check_kinds T (Nat.le_refl _)
theorem ok_summed {P : Program} {w : World} {K : PySem.W.Frag} {mg : Str → Option Value} {base : Heap} {k : Nat} (T : Tx K mg) (hL : 2 ≤ k) : Fk P w K mg base (k + 1) "summed" ["deed", "one", "other"] (runF 4 (b_summed)) := by
  have F_check_kinds := f_check_kinds (P := P) (w := w) (base := base) T
  obtain ⟨fI, hF⟩ := T.fal
  exact fk_ok (N := ["deed", "one", "other", "found"]) T.d_summed sc_summed fun f cdv A outer s H E hr tk hp =>
    (ss_cons (s_expr (e_callF F_check_kinds hr (Nat.le_trans (by decide) hL) tk (a_cons (e_if (t_cmp (op_eqP (u64 hr)) oa_eq (e_var 0) e_str) (n_pure (e_lst (a_cons (e_var 1) a_nil))) (n_pure (e_lst (a_cons (e_var 1) (a_cons (e_var 2) a_nil))))) (a_cons e_int a_nil)) (len_cons (len_cons len_nil))))
    (ss_cons (s_if (t_cmp (op_eqP (u64 hr)) oa_eq (e_var 0) e_str) (ss_one (s_ret (e_intc T.fr_int (a_cons (e_cmp op_lt oa_lt (e_var 1) (e_var 2)) a_nil)))) ss_nil)
    (ss_cons (s_set sc_summed.nd (e_if (t_cmp (op_eqP (u64 hr)) oa_eq (e_var 0) e_str) (e_op op_fdiv oa_fdiv (e_var 1) e_int) (e_if (t_cmp (op_eqP (u64 hr)) oa_eq (e_var 0) e_str) (e_op op_addA oa_add (e_var 1) (e_var 2)) (e_op op_sub oa_sub (e_var 1) (e_var 2)))))
    (ss_cons (s_if (t_not (t_chain op_le oa_le op_le oa_le (e_neg (e_gint T.k_MOST_NUMBER)) (e_var 3) (e_gint T.k_MOST_NUMBER))) (ss_one (s_raiseF hF hr tk e_str)) ss_nil)
    (ss_one (s_ret (e_var 3)))))))
theorem f_summed {P : Program} {w : World} {K : PySem.W.Frag} {mg : Str → Option Value} {base : Heap} (T : Tx K mg) : Fk P w K mg base 3 "summed" ["deed", "one", "other"] m_summed := ok_summed T (Nat.le_refl _)
theorem ok_member {P : Program} {w : World} {K : PySem.W.Frag} {mg : Str → Option Value} {base : Heap} {k : Nat} (T : Tx K mg) (hL : 0 ≤ k) : Fk P w K mg base (k + 1) "member" ["some", "count"] (runF 2 (b_member)) := by
  obtain ⟨fI, hF⟩ := T.fal
  exact fk_ok (N := ["some", "count"]) T.d_member sc_member fun f cdv A outer s H E hr tk hp =>
    (ss_cons (s_if (t_not (t_chain op_le oa_le op_lt oa_lt e_int (e_var 1) (e_len T.fr_len (a_cons (e_var 0) a_nil)))) (ss_one (s_raiseF hF hr tk e_str)) ss_nil)
    (ss_one (s_ret (e_ix (e_var 0) (e_var 1)))))
theorem f_member {P : Program} {w : World} {K : PySem.W.Frag} {mg : Str → Option Value} {base : Heap} (T : Tx K mg) : Fk P w K mg base 1 "member" ["some", "count"] m_member := ok_member T (Nat.le_refl _)
theorem ok_put_in {P : Program} {w : World} {K : PySem.W.Frag} {mg : Str → Option Value} {base : Heap} {k : Nat} (T : Tx K mg) (hL : 2 ≤ k) : Fk P w K mg base (k + 1) "put_in" ["some", "pair"] (runF 2 (b_put_in)) := by
  have F_kind_of := f_kind_of (P := P) (w := w) (base := base) T
  have F_check_kinds := f_check_kinds (P := P) (w := w) (base := base) T
  have F_member := f_member (P := P) (w := w) (base := base) T
  obtain ⟨fI, hF⟩ := T.fal
  exact fk_ok (N := ["some", "pair"]) T.d_put_in sc_put_in fun f cdv A outer s H E hr tk hp =>
    (ss_cons (s_expr (e_callF F_check_kinds hr (Nat.le_trans (by decide) hL) tk (a_cons (n_pure (e_lst (a_cons (e_var 0) (a_cons (e_var 1) a_nil)))) (a_cons e_int a_nil)) (len_cons (len_cons len_nil))))
    (ss_cons (s_if (w_or (t_cmp (op_neP (u64 hr)) oa_eq (e_len T.fr_len (a_cons (e_var 1) a_nil)) e_int) (w_or1 (t_cmp (op_neP (u64 hr)) oa_eq (e_callF F_kind_of hr (Nat.le_trans (by decide) hL) tk (a_cons (e_ix (e_var 1) e_int) a_nil) (len_cons len_nil)) e_int))).pt (ss_one (s_raiseF hF hr tk e_str)) ss_nil)
    (ss_cons (s_expr (e_callF F_member hr (Nat.le_trans (by decide) hL) tk (a_cons (e_var 0) (a_cons (e_ix (e_var 1) e_int) a_nil)) (len_cons (len_cons len_nil))))
    (ss_one (s_ret (e_op op_addA oa_add (e_op op_addA oa_add (e_slice (e_var 0) o_none (o_some (e_ix (e_var 1) e_int))) (e_tup (a_cons (e_ix (e_var 1) e_int) a_nil))) (e_slice (e_var 0) (o_some (e_op op_addA oa_add (e_ix (e_var 1) e_int) e_int)) o_none)))))))
theorem f_put_in {P : Program} {w : World} {K : PySem.W.Frag} {mg : Str → Option Value} {base : Heap} (T : Tx K mg) : Fk P w K mg base 3 "put_in" ["some", "pair"] m_put_in := ok_put_in T (Nat.le_refl _)
theorem ok_filled {P : Program} {w : World} {K : PySem.W.Frag} {mg : Str → Option Value} {base : Heap} {k : Nat} (T : Tx K mg) (hL : 2 ≤ k) : Fk P w K mg base (k + 1) "filled" ["some", "store"] (runF 6 (b_filled)) := by
  have F_kind_of := f_kind_of (P := P) (w := w) (base := base) T
  have F_check_kinds := f_check_kinds (P := P) (w := w) (base := base) T
  have F_member := f_member (P := P) (w := w) (base := base) T
  exact fk_ok (N := ["some", "store", "places", "found", "one", "is_early"]) T.d_filled sc_filled fun f cdv A outer s H E hr tk hp =>
    (ss_cons (s_expr (e_callF F_check_kinds hr (Nat.le_trans (by decide) hL) tk (a_cons (n_pure (e_lst (a_cons (e_var 0) (a_cons (e_var 1) a_nil)))) (a_cons e_int a_nil)) (len_cons (len_cons len_nil))))
    (ss_cons (s_setLc false (own := [("one", 4)]) sc_filled.nd (i_seq (e_var 0)) (blk_of (by kernel_rfl)) (fun s H C cl fp => (g_name sc_filled.nd)) (fun s H C cl fp => pts_one (w_and (t_cmp (op_eqP (u64 hr)) oa_eq (e_callF F_kind_of hr (Nat.le_trans (by decide) hL) takes0 (a_cons (e_var 4) a_nil) (len_cons len_nil)) e_int) (w_and (t_cmp (op_eqP (u64 hr)) oa_eq (e_len T.fr_len (a_cons (e_var 4) a_nil)) e_int) (w_and1 (t_cmp (op_eqP (u64 hr)) oa_eq (e_ix (e_var 4) e_int) (e_gstr T.k_EARLY))))).pt) (fun s H C cl fp => (e_ix (e_var 4) e_int)))
    (ss_cons (s_expr (e_callF F_check_kinds hr (Nat.le_trans (by decide) hL) tk (a_cons (e_var 2) (a_cons e_int a_nil)) (len_cons (len_cons len_nil))))
    (ss_cons (s_set sc_filled.nd (n_new (e_lst a_nil)))
    (ss_cons (s_for (own := [4]) hp (i_seq (e_var 0)) (g_name sc_filled.nd) (ss_cons (s_set sc_filled.nd (e_and (e_cmp (op_eqP (u64 hr)) oa_eq (e_callF F_kind_of hr (Nat.le_trans (by decide) hL) tk (a_cons (e_var 4) a_nil) (len_cons len_nil)) e_int) (e_and (e_cmp (op_eqP (u64 hr)) oa_eq (e_len T.fr_len (a_cons (e_var 4) a_nil)) e_int) (e_one (e_cmp (op_eqP (u64 hr)) oa_eq (e_ix (e_var 4) e_int) (e_gstr T.k_EARLY))))))
    (ss_one (s_expr (e_append (e_var 3) (e_if (t_val (e_var 5)) (e_tup (a_cons (e_gstr T.k_FILLED) (a_cons (e_callF F_member hr (Nat.le_trans (by decide) hL) tk (a_cons (e_var 1) (a_cons (e_ix (e_var 4) e_int) a_nil)) (len_cons (len_cons len_nil))) a_nil))) (e_var 4)))))))
    (ss_one (s_ret (e_tupc T.fr_tuple (a_cons (e_var 3) a_nil)))))))))
theorem f_filled {P : Program} {w : World} {K : PySem.W.Frag} {mg : Str → Option Value} {base : Heap} (T : Tx K mg) : Fk P w K mg base 3 "filled" ["some", "store"] m_filled := ok_filled T (Nat.le_refl _)
theorem ok_united {P : Program} {w : World} {K : PySem.W.Frag} {mg : Str → Option Value} {base : Heap} {k : Nat} (T : Tx K mg) (hL : 0 ≤ k) : Fk P w K mg base (k + 1) "united" ["one", "other"] (runF 4 (b_united)) := by
  exact fk_ok (N := ["one", "other", "found", "thing"]) T.d_united sc_united fun f cdv A outer s H E hr tk hp =>
    (ss_cons (s_set sc_united.nd (n_new (e_listN T.fr_list (e_var 0))))
    (ss_cons (s_for (own := [3]) hp (i_seq (e_var 1)) (g_name sc_united.nd) (ss_one (s_if (t_cmp (op_notInP (u65 hr)) oa_in (e_var 3) (e_var 2)) (ss_one (s_expr (e_append (e_var 2) (e_var 3)))) ss_nil)))
    (ss_one (s_ret (e_tupc T.fr_tuple (a_cons (e_var 2) a_nil))))))
theorem f_united {P : Program} {w : World} {K : PySem.W.Frag} {mg : Str → Option Value} {base : Heap} (T : Tx K mg) : Fk P w K mg base 1 "united" ["one", "other"] m_united := ok_united T (Nat.le_refl _)
theorem ok_listed {P : Program} {w : World} {K : PySem.W.Frag} {mg : Str → Option Value} {base : Heap} {k : Nat} (T : Tx K mg) (hL : 2 ≤ k) : Fk P w K mg base (k + 1) "listed" ["deed", "one", "other"] (runF 4 (b_listed)) := by
  have F_check_kinds := f_check_kinds (P := P) (w := w) (base := base) T
  have F_member := f_member (P := P) (w := w) (base := base) T
  have F_united := f_united (P := P) (w := w) (base := base) T
  exact fk_ok (N := ["deed", "one", "other", "thing"]) T.d_listed sc_listed fun f cdv A outer s H E hr tk hp =>
    (ss_cons (s_expr (e_callF F_check_kinds hr (Nat.le_trans (by decide) hL) tk (a_cons (e_if (t_cmp (op_inP (u65 hr)) oa_in (e_var 0) (e_tup (a_cons e_str (a_cons e_str a_nil)))) (n_pure (e_lst (a_cons (e_var 1) (a_cons (e_var 2) a_nil)))) (n_pure (e_lst (a_cons (e_var 1) a_nil)))) (a_cons e_int a_nil)) (len_cons (len_cons len_nil))))
    (ss_cons (s_if (t_cmp (op_eqP (u64 hr)) oa_eq (e_var 0) e_str) (ss_one (s_ret (e_len T.fr_len (a_cons (e_var 1) a_nil)))) ss_nil)
    (ss_cons (s_if (t_cmp (op_eqP (u64 hr)) oa_eq (e_var 0) e_str) (ss_cons (s_expr (e_callF F_check_kinds hr (Nat.le_trans (by decide) hL) tk (a_cons (n_pure (e_lst (a_cons (e_var 2) a_nil))) (a_cons e_int a_nil)) (len_cons (len_cons len_nil))))
    (ss_one (s_ret (e_callF F_member hr (Nat.le_trans (by decide) hL) tk (a_cons (e_var 1) (a_cons (e_var 2) a_nil)) (len_cons (len_cons len_nil)))))) ss_nil)
    (ss_cons (s_if (t_cmp (op_eqP (u64 hr)) oa_eq (e_var 0) e_str) (ss_one (s_ret (e_op op_addA oa_add (e_var 1) (e_tup (a_cons (e_var 2) a_nil))))) ss_nil)
    (ss_cons (s_if (t_cmp (op_eqP (u64 hr)) oa_eq (e_var 0) e_str) (ss_one (s_ret (e_tupc T.fr_tuple (a_cons (n_pure (e_lc (own := [("thing", 3)]) sc_listed.nd (i_seq (e_var 1)) (blk_of (by kernel_rfl)) (fun s H C cl fp => (g_name sc_listed.nd)) (fun s H C cl fp => t_yes s H C cl fp _) (fun s H C cl fp => (e_tup (a_cons (e_var 3) (a_cons (e_var 2) a_nil)))))) a_nil)))) ss_nil)
    (ss_cons (s_if (t_cmp (op_eqP (u64 hr)) oa_eq (e_var 0) e_str) (ss_one (s_ret (e_tupc T.fr_tuple (a_cons (n_pure (e_lc (own := [("thing", 3)]) sc_listed.nd (i_seq (e_var 2)) (blk_of (by kernel_rfl)) (fun s H C cl fp => (g_name sc_listed.nd)) (fun s H C cl fp => t_yes s H C cl fp _) (fun s H C cl fp => (e_if (t_cmp (op_inP (u65 hr)) oa_in (e_var 3) (e_var 1)) (e_indexT (u66 hr) (e_var 1) (e_var 3)) (e_len T.fr_len (a_cons (e_var 1) a_nil)))))) a_nil)))) ss_nil)
    (ss_one (s_ret (e_callF F_united hr (Nat.le_trans (by decide) hL) tk (a_cons (e_var 1) (a_cons (e_var 2) a_nil)) (len_cons (len_cons len_nil)))))))))))
theorem f_listed {P : Program} {w : World} {K : PySem.W.Frag} {mg : Str → Option Value} {base : Heap} (T : Tx K mg) : Fk P w K mg base 3 "listed" ["deed", "one", "other"] m_listed := ok_listed T (Nat.le_refl _)
theorem ok_operands_of {P : Program} {w : World} {K : PySem.W.Frag} {mg : Str → Option Value} {base : Heap} {k : Nat} (T : Tx K mg) (hL : 2 ≤ k) : Fk P w K mg base (k + 1) "operands_of" ["some"] (runF 2 (b_operands_of)) := by
  have F_kind_of := f_kind_of (P := P) (w := w) (base := base) T
  have F_check_kinds := f_check_kinds (P := P) (w := w) (base := base) T
  obtain ⟨fI, hF⟩ := T.fal
  exact fk_ok (N := ["some", "one"]) T.d_operands_of sc_operands_of fun f cdv A outer s H E hr tk hp =>
    (ss_cons (s_expr (e_callF F_check_kinds hr (Nat.le_trans (by decide) hL) tk (a_cons (n_pure (e_lst (a_cons (e_var 0) a_nil))) (a_cons e_int a_nil)) (len_cons (len_cons len_nil))))
    (ss_cons (s_if (w_or (t_cmp (op_neP (u64 hr)) oa_eq (e_len T.fr_len (a_cons (e_var 0) a_nil)) e_int) (w_or1 (t_not (t_val (e_all T.fr_all (a_cons (n_pure (e_lc (own := [("one", 1)]) sc_operands_of.nd (i_seq (e_var 0)) (blk_of (by kernel_rfl)) (fun s H C cl fp => (g_name sc_operands_of.nd)) (fun s H C cl fp => t_yes s H C cl fp _) (fun s H C cl fp => (e_and (e_cmp (op_eqP (u64 hr)) oa_eq (e_callF F_kind_of hr (Nat.le_trans (by decide) hL) takes0 (a_cons (e_var 1) a_nil) (len_cons len_nil)) e_int) (e_and (e_cmp (op_eqP (u64 hr)) oa_eq (e_len T.fr_len (a_cons (e_var 1) a_nil)) e_int) (e_one (e_cmp (op_eqP (u64 hr)) oa_eq (e_ix (e_var 1) e_int) (e_gstr T.k_FILLED)))))))) a_nil)))))).pt (ss_one (s_raiseF hF hr tk e_str)) ss_nil)
    (ss_one (s_ret (e_tup (a_cons (e_ix (e_ix (e_var 0) e_int) e_int) (a_cons (e_ix (e_ix (e_var 0) e_int) e_int) a_nil)))))))
theorem f_operands_of {P : Program} {w : World} {K : PySem.W.Frag} {mg : Str → Option Value} {base : Heap} (T : Tx K mg) : Fk P w K mg base 3 "operands_of" ["some"] m_operands_of := ok_operands_of T (Nat.le_refl _)
theorem ok_reflected {P : Program} {w : World} {K : PySem.W.Frag} {mg : Str → Option Value} {base : Heap} {k : Nat} (T : Tx K mg) (hL : 3 ≤ k) {r_reflected : List D → AH → R D} {r_made_by : List D → AH → R D} {r_told_by : List D → AH → R D} (F_reflected : Fk P w K mg base k "reflected" ["deed", "word", "some"] r_reflected) (F_made_by : Fk P w K mg base k "made_by" ["deed", "one", "other"] r_made_by) (F_told_by : Fk P w K mg base k "told_by" ["deed", "one", "other"] r_told_by) : Fk P w K mg base (k + 1) "reflected" ["deed", "word", "some"] (runF 6 (b_reflected r_reflected r_made_by r_told_by)) := by
  have F_kind_of := f_kind_of (P := P) (w := w) (base := base) T
  have F_operands_of := f_operands_of (P := P) (w := w) (base := base) T
  obtain ⟨fI, hF⟩ := T.fal
  exact fk_ok (N := ["deed", "word", "some", "one", "other", "fallen"]) T.d_reflected sc_reflected fun f cdv A outer s H E hr tk hp =>
    (ss_cons (s_if (w_or (t_cmp (op_neP (u64 hr)) oa_eq (e_callF F_kind_of hr (Nat.le_trans (by decide) hL) tk (a_cons (e_var 1) a_nil) (len_cons len_nil)) e_int) (w_or1 (t_cmp (op_notInP (u65 hr)) oa_in (e_var 1) (e_gref T.k_DEEDS T.r_DEEDS)))).pt (ss_one (s_raiseF hF hr tk e_str)) ss_nil)
    (ss_cons (s_asg (own := [3, 4]) (e_callF F_operands_of hr (Nat.le_trans (by decide) hL) tk (a_cons (e_var 2) a_nil) (len_cons len_nil)) (g_tup rfl (gs_cons (g_name sc_reflected.nd) (gs_cons (g_name sc_reflected.nd) gs_nil)) rfl))
    (ss_cons (s_if (t_cmp (op_eqP (u64 hr)) oa_eq (e_var 0) e_str) (ss_one (s_ret (e_callF F_told_by hr (Nat.le_refl _) tk (a_cons (e_var 1) (a_cons (e_var 3) (a_cons (e_var 4) a_nil))) (len_cons (len_cons (len_cons len_nil)))))) ss_nil)
    (ss_cons (s_tryAs sc_reflected.nd ⟨rfl, by decide, Or.inl T.n_Fallen⟩ T.mt_Fallen tk (fun W pn xe tk' hp' => (ss_one (s_expr (e_callF F_told_by hr (Nat.le_refl _) tk' (a_cons (e_var 1) (a_cons (e_var 3) (a_cons (e_var 4) a_nil))) (len_cons (len_cons (len_cons len_nil))))))) (fun a oe cls d pn y hz hd => (ss_one (s_ret (e_xf T.xfF T.xn_word hz hd (e_var 5))))) (fun a y σ h => by simp only [retS, tupE, consE, pureE, xfE_nf]; cases xfO y "Fallen" "word" 5 σ <;> rfl))
    (ss_one (s_ret e_int))))))
theorem ok_made_by {P : Program} {w : World} {K : PySem.W.Frag} {mg : Str → Option Value} {base : Heap} {k : Nat} (T : Tx K mg) (hL : 3 ≤ k) {r_reflected : List D → AH → R D} {r_made_by : List D → AH → R D} {r_told_by : List D → AH → R D} (F_reflected : Fk P w K mg base k "reflected" ["deed", "word", "some"] r_reflected) (F_made_by : Fk P w K mg base k "made_by" ["deed", "one", "other"] r_made_by) (F_told_by : Fk P w K mg base k "told_by" ["deed", "one", "other"] r_told_by) : Fk P w K mg base (k + 1) "made_by" ["deed", "one", "other"] (runF 3 (b_made_by r_reflected r_made_by r_told_by)) := by
  have F_kind_of := f_kind_of (P := P) (w := w) (base := base) T
  have F_summed := f_summed (P := P) (w := w) (base := base) T
  have F_put_in := f_put_in (P := P) (w := w) (base := base) T
  have F_filled := f_filled (P := P) (w := w) (base := base) T
  have F_listed := f_listed (P := P) (w := w) (base := base) T
  exact fk_ok (N := ["deed", "one", "other"]) T.d_made_by sc_made_by fun f cdv A outer s H E hr tk hp =>
    (ss_cons (s_if (t_cmp (op_inP (u65 hr)) oa_in (e_var 0) (e_tup (a_cons e_str (a_cons e_str (a_cons e_str (a_cons e_str a_nil)))))) (ss_one (s_ret (e_callF F_summed hr (Nat.le_trans (by decide) hL) tk (a_cons (e_var 0) (a_cons (e_var 1) (a_cons (e_var 2) a_nil))) (len_cons (len_cons (len_cons len_nil)))))) ss_nil)
    (ss_cons (s_if (t_cmp (op_inP (u65 hr)) oa_in (e_var 0) (e_tup (a_cons e_str (a_cons e_str (a_cons e_str (a_cons e_str (a_cons e_str (a_cons e_str a_nil)))))))) (ss_one (s_ret (e_callF F_listed hr (Nat.le_trans (by decide) hL) tk (a_cons (e_var 0) (a_cons (e_var 1) (a_cons (e_var 2) a_nil))) (len_cons (len_cons (len_cons len_nil)))))) ss_nil)
    (ss_cons (s_if (t_cmp (op_inP (u65 hr)) oa_in (e_var 0) (e_tup (a_cons e_str (a_cons e_str a_nil)))) (ss_one (s_ret (e_callF F_reflected hr (Nat.le_refl _) tk (a_cons (e_var 0) (a_cons (e_var 1) (a_cons (e_var 2) a_nil))) (len_cons (len_cons (len_cons len_nil)))))) ss_nil)
    (ss_cons (s_if (t_cmp (op_eqP (u64 hr)) oa_eq (e_var 0) e_str) (ss_one (s_ret (e_callF F_put_in hr (Nat.le_trans (by decide) hL) tk (a_cons (e_var 1) (a_cons (e_var 2) a_nil)) (len_cons (len_cons len_nil))))) ss_nil)
    (ss_cons (s_if (t_cmp (op_eqP (u64 hr)) oa_eq (e_var 0) e_str) (ss_one (s_ret (e_callF F_filled hr (Nat.le_trans (by decide) hL) tk (a_cons (e_var 1) (a_cons (e_var 2) a_nil)) (len_cons (len_cons len_nil))))) ss_nil)
    (ss_cons (s_if (t_cmp (op_eqP (u64 hr)) oa_eq (e_var 0) e_str) (ss_one (s_ret (e_tup (a_cons (e_var 1) (a_cons (e_var 2) a_nil))))) ss_nil)
    (ss_cons (s_if (t_cmp (op_eqP (u64 hr)) oa_eq (e_var 0) e_str) (ss_one (s_ret (e_intc T.fr_int (a_cons (e_cmp (op_eqP (u64 hr)) oa_eq (e_var 1) (e_var 2)) a_nil)))) ss_nil)
    (ss_one (s_ret (e_if (t_cmp (op_eqP (u64 hr)) oa_eq (e_var 0) e_str) (e_callF F_kind_of hr (Nat.le_trans (by decide) hL) tk (a_cons (e_var 1) a_nil) (len_cons len_nil)) (e_var 1)))))))))))
theorem ok_told_by {P : Program} {w : World} {K : PySem.W.Frag} {mg : Str → Option Value} {base : Heap} {k : Nat} (T : Tx K mg) (hL : 3 ≤ k) {r_reflected : List D → AH → R D} {r_made_by : List D → AH → R D} {r_told_by : List D → AH → R D} (F_reflected : Fk P w K mg base k "reflected" ["deed", "word", "some"] r_reflected) (F_made_by : Fk P w K mg base k "made_by" ["deed", "one", "other"] r_made_by) (F_told_by : Fk P w K mg base k "told_by" ["deed", "one", "other"] r_told_by) : Fk P w K mg base (k + 1) "told_by" ["deed", "one", "other"] (runF 4 (b_told_by r_reflected r_made_by r_told_by)) := by
  obtain ⟨fI, hF⟩ := T.fal
  exact fk_ok (N := ["deed", "one", "other", "found"]) T.d_told_by sc_told_by fun f cdv A outer s H E hr tk hp =>
    (ss_cons (s_set sc_told_by.nd (e_callF F_made_by hr (Nat.le_refl _) tk (a_cons (e_var 0) (a_cons (e_var 1) (a_cons (e_var 2) a_nil))) (len_cons (len_cons (len_cons len_nil)))))
    (ss_cons (s_if (w_and (t_cmp (op_inP (u65 hr)) oa_in (e_var 0) (e_gref T.k_MAKING T.r_MAKING)) (w_and1 (t_cmp op_gt oa_gt (e_len T.fr_len (a_cons (e_var 3) a_nil)) (e_gint T.k_MOST_MEMBERS)))).pt (ss_one (s_raiseF hF hr tk e_str)) ss_nil)
    (ss_one (s_ret (e_var 3)))))
theorem g_reflected {P : Program} {w : World} {K : PySem.W.Frag} {mg : Str → Option Value} {base : Heap} (T : Tx K mg) : ∀ n : Nat, Fk P w K mg base (3 + n) "reflected" ["deed", "word", "some"] (l_reflected n) ∧ Fk P w K mg base (3 + n) "made_by" ["deed", "one", "other"] (l_made_by n) ∧ Fk P w K mg base (3 + n) "told_by" ["deed", "one", "other"] (l_told_by n)
  | 0 => ⟨fk_stuck T.d_reflected, fk_stuck T.d_made_by, fk_stuck T.d_told_by⟩
  | n + 1 => by
    have ih := g_reflected (P := P) (w := w) (base := base) T n
    obtain ⟨F_reflected, F_made_by, F_told_by⟩ := ih
    exact ⟨ok_reflected T (Nat.le_add_right _ _) F_reflected F_made_by F_told_by, ok_made_by T (Nat.le_add_right _ _) F_reflected F_made_by F_told_by, ok_told_by T (Nat.le_add_right _ _) F_reflected F_made_by F_told_by⟩
theorem f_reflected {P : Program} {w : World} {K : PySem.W.Frag} {mg : Str → Option Value} {base : Heap} (T : Tx K mg) : Fk P w K mg base 63 "reflected" ["deed", "word", "some"] m_reflected := (g_reflected T 60).1
theorem f_made_by {P : Program} {w : World} {K : PySem.W.Frag} {mg : Str → Option Value} {base : Heap} (T : Tx K mg) : Fk P w K mg base 63 "made_by" ["deed", "one", "other"] m_made_by := (g_reflected T 60).2.1
theorem f_told_by {P : Program} {w : World} {K : PySem.W.Frag} {mg : Str → Option Value} {base : Heap} (T : Tx K mg) : Fk P w K mg base 63 "told_by" ["deed", "one", "other"] m_told_by := (g_reflected T 60).2.2
theorem ok_done {P : Program} {w : World} {K : PySem.W.Frag} {mg : Str → Option Value} {base : Heap} {k : Nat} (T : Tx K mg) (hL : 63 ≤ k) : Fk P w K mg base (k + 1) "done" ["deed", "a", "b"] (runF 4 (b_done)) := by
  have F_is_worth := f_is_worth (P := P) (w := w) (base := base) T
  have F_told_by := f_told_by (P := P) (w := w) (base := base) T
  exact fk_ok (N := ["deed", "a", "b", "fallen"]) T.d_done sc_done fun f cdv A outer s H E hr tk hp =>
    (ss_cons (s_if (w_or (t_not (t_val (e_isi .str (by decide) T.fr_isinstance T.fr_str bb_str (e_var 0)))) (w_or1 (t_cmp (op_notInP (u65 hr)) oa_in (e_var 0) (e_gref T.k_DEEDS T.r_DEEDS)))).pt (ss_one (s_raiseV T.x_BadDeed tk)) ss_nil)
    (ss_cons (s_if (w_or (t_not (t_val (e_callF F_is_worth hr (Nat.le_trans (by decide) hL) tk (a_cons (e_var 1) a_nil) (len_cons len_nil)))) (w_or1 (t_not (t_val (e_callF F_is_worth hr (Nat.le_trans (by decide) hL) tk (a_cons (e_var 2) a_nil) (len_cons len_nil)))))).pt (ss_one (s_raiseV T.x_BadWorth tk)) ss_nil)
    (ss_one (s_tryAs sc_done.nd ⟨rfl, by decide, Or.inl T.n_Fallen⟩ T.mt_Fallen tk (fun W pn xe tk' hp' => (ss_one (s_ret (e_tup (a_cons e_str (a_cons (e_callF F_told_by hr (Nat.le_trans (by decide) hL) tk' (a_cons (e_var 0) (a_cons (e_var 1) (a_cons (e_var 2) a_nil))) (len_cons (len_cons (len_cons len_nil)))) a_nil)))))) (fun a oe cls d pn y hz hd => (ss_one (s_ret (e_tup (a_cons e_str (a_cons (e_xf T.xfF T.xn_word hz hd (e_var 3)) a_nil)))))) (fun a y σ h => by simp only [retS, tupE, consE, pureE, xfE_nf]; cases xfO y "Fallen" "word" 3 σ <;> rfl)))))
theorem f_done {P : Program} {w : World} {K : PySem.W.Frag} {mg : Str → Option Value} {base : Heap} (T : Tx K mg) : Fk P w K mg base 64 "done" ["deed", "a", "b"] m_done := ok_done T (Nat.le_refl _)
theorem ok__law_cell_at {P : Program} {w : World} {K : PySem.W.Frag} {mg : Str → Option Value} {base : Heap} {k : Nat} (T : Tx K mg) (hL : 0 ≤ k) : Fk P w K mg base (k + 1) "_law_cell_at" ["_law_script", "_law_k"] (runF 2 (b__law_cell_at)) := by
  exact fk_ok (N := ["_law_script", "_law_k"]) T.d__law_cell_at sc__law_cell_at fun f cdv A outer s H E hr tk hp =>
    (ss_cons (s_if (t_cmp op_lt oa_lt (e_var 1) (e_len T.fr_len (a_cons (e_var 0) a_nil))) (ss_one (s_ret (e_ix (e_var 0) (e_var 1)))) ss_nil)
    (ss_cons (s_if (t_cmp (op_eqP (u64 hr)) oa_eq (e_var 0) (n_pure (e_lst a_nil))) (ss_one (s_ret (e_op op_mul oa_mul (e_var 1) e_int))) ss_nil)
    (ss_one (s_ret (e_op op_mod oa_mod (e_op op_mul oa_mul (e_op op_addA oa_add (e_ix (e_var 0) (e_op op_mod oa_mod (e_var 1) (e_len T.fr_len (a_cons (e_var 0) a_nil)))) (e_var 1)) e_int) e_int)))))
theorem f__law_cell_at {P : Program} {w : World} {K : PySem.W.Frag} {mg : Str → Option Value} {base : Heap} (T : Tx K mg) : Fk P w K mg base 1 "_law_cell_at" ["_law_script", "_law_k"] m__law_cell_at := ok__law_cell_at T (Nat.le_refl _)
theorem ok__law_numbers {P : Program} {w : World} {K : PySem.W.Frag} {mg : Str → Option Value} {base : Heap} {k : Nat} (T : Tx K mg) (hL : 0 ≤ k) : Fk P w K mg base (k + 1) "_law_numbers" ["_law_cell", "_law_limits"] (runF 4 (b__law_numbers)) := by
  exact fk_ok (N := ["_law_cell", "_law_limits", "_law_rest", "_law_found"]) T.d__law_numbers sc__law_numbers fun f cdv A outer s H E hr tk hp =>
    (ss_cons (s_set sc__law_numbers.nd (e_var 0))
    (ss_cons (s_if (t_cmp op_lt oa_lt (e_var 0) (e_op op_pow oa_pow e_int e_int)) (ss_one (s_set sc__law_numbers.nd (e_op op_fdiv oa_fdiv (e_op op_pow oa_pow (e_op op_addA oa_add (e_op op_mul oa_mul (e_op op_mod oa_mod (e_var 0) e_int) e_int) e_int) e_int) e_int))) ss_nil)
    (ss_cons (s_set sc__law_numbers.nd (n_new (e_lst a_nil)))
    (ss_cons (s_for (own := [1]) hp (i_seq (e_var 1)) (g_name sc__law_numbers.nd) (ss_cons (s_expr (e_append (e_var 3) (e_op op_mod oa_mod (e_intc T.fr_int (a_cons (e_var 2) a_nil)) (e_var 1))))
    (ss_one (s_set sc__law_numbers.nd (e_op op_fdiv oa_fdiv (e_var 2) (e_var 1))))))
    (ss_one (s_ret (e_var 3)))))))
theorem f__law_numbers {P : Program} {w : World} {K : PySem.W.Frag} {mg : Str → Option Value} {base : Heap} (T : Tx K mg) : Fk P w K mg base 1 "_law_numbers" ["_law_cell", "_law_limits"] m__law_numbers := ok__law_numbers T (Nat.le_refl _)
theorem ok__law_by {P : Program} {w : World} {K : PySem.W.Frag} {mg : Str → Option Value} {base : Heap} {k : Nat} (T : Tx K mg) (hL : 0 ≤ k) : Fk P w K mg base (k + 1) "_law_by" ["_law_draws_here", "_law_many"] (runF 2 (b__law_by)) := by
  exact fk_ok (N := ["_law_draws_here", "_law_many"]) T.d__law_by sc__law_by fun f cdv A outer s H E hr tk hp =>
    (ss_one (s_ret (e_if (t_cmp (op_neP (u64 hr)) oa_eq (e_var 0) (n_pure (e_lst a_nil))) (e_op op_mod oa_mod (e_intc T.fr_int (a_cons (e_popAt (e_var 0) e_int) a_nil)) (e_var 1)) e_int)))
theorem f__law_by {P : Program} {w : World} {K : PySem.W.Frag} {mg : Str → Option Value} {base : Heap} (T : Tx K mg) : Fk P w K mg base 1 "_law_by" ["_law_draws_here", "_law_many"] m__law_by := ok__law_by T (Nat.le_refl _)
theorem ok__law_draws {P : Program} {w : World} {K : PySem.W.Frag} {mg : Str → Option Value} {base : Heap} {k : Nat} (T : Tx K mg) (hL : 1 ≤ k) : Fk P w K mg base (k + 1) "_law_draws" ["_law_script", "_law_at", "_law_many"] (runF 5 (b__law_draws)) := by
  have F__law_cell_at := f__law_cell_at (P := P) (w := w) (base := base) T
  have F__law_numbers := f__law_numbers (P := P) (w := w) (base := base) T
  exact fk_ok (N := ["_law_script", "_law_at", "_law_many", "_law_found", "_law_k"]) T.d__law_draws sc__law_draws fun f cdv A outer s H E hr tk hp =>
    (ss_cons (s_set sc__law_draws.nd (n_new (e_lst a_nil)))
    (ss_cons (s_for (own := [4]) hp (i_range1 T.fr_range (e_var 2)) (g_name sc__law_draws.nd) (ss_one (s_set sc__law_draws.nd (n_new (e_catN (e_var 3) (e_callF F__law_numbers hr (Nat.le_trans (by decide) hL) tk (a_cons (e_callF F__law_cell_at hr (Nat.le_trans (by decide) hL) tk (a_cons (e_var 0) (a_cons (e_op op_addA oa_add (e_var 1) (e_var 4)) a_nil)) (len_cons (len_cons len_nil))) (a_cons (n_pure (e_lst (a_cons e_int (a_cons e_int (a_cons e_int (a_cons e_int (a_cons e_int (a_cons e_int a_nil)))))))) a_nil)) (len_cons (len_cons len_nil))))))))
    (ss_one (s_ret (e_var 3)))))
theorem f__law_draws {P : Program} {w : World} {K : PySem.W.Frag} {mg : Str → Option Value} {base : Heap} (T : Tx K mg) : Fk P w K mg base 2 "_law_draws" ["_law_script", "_law_at", "_law_many"] m__law_draws := ok__law_draws T (Nat.le_refl _)
theorem ok__law_kind {P : Program} {w : World} {K : PySem.W.Frag} {mg : Str → Option Value} {base : Heap} {k : Nat} (T : Tx K mg) (hL : 0 ≤ k) : Fk P w K mg base (k + 1) "_law_kind" ["_law_w"] (runF 1 (b__law_kind)) := by
  exact fk_ok (N := ["_law_w"]) T.d__law_kind sc__law_kind fun f cdv A outer s H E hr tk hp =>
    (ss_one (s_ret (e_if (t_val (e_isi .tuple (by decide) T.fr_isinstance T.fr_tuple bb_tuple (e_var 0))) e_int (e_if (t_val (e_isi .str (by decide) T.fr_isinstance T.fr_str bb_str (e_var 0))) e_int e_int))))
theorem f__law_kind {P : Program} {w : World} {K : PySem.W.Frag} {mg : Str → Option Value} {base : Heap} (T : Tx K mg) : Fk P w K mg base 1 "_law_kind" ["_law_w"] m__law_kind := ok__law_kind T (Nat.le_refl _)
theorem ok__law_sum {P : Program} {w : World} {K : PySem.W.Frag} {mg : Str → Option Value} {base : Heap} {k : Nat} (T : Tx K mg) (hL : 1 ≤ k) : Fk P w K mg base (k + 1) "_law_sum" ["_law_deed_here", "_law_a", "_law_b"] (runF 4 (b__law_sum)) := by
  have F__law_kind := f__law_kind (P := P) (w := w) (base := base) T
  exact fk_ok (N := ["_law_deed_here", "_law_a", "_law_b", "_law_found"]) T.d__law_sum sc__law_sum fun f cdv A outer s H E hr tk hp =>
    (ss_cons (s_if (w_or (t_cmp (op_neP (u64 hr)) oa_eq (e_callF F__law_kind hr (Nat.le_trans (by decide) hL) tk (a_cons (e_var 1) a_nil) (len_cons len_nil)) e_int) (w_or1 (w_and (t_cmp (op_neP (u64 hr)) oa_eq (e_var 0) e_str) (w_and1 (t_cmp (op_neP (u64 hr)) oa_eq (e_callF F__law_kind hr (Nat.le_trans (by decide) hL) tk (a_cons (e_var 2) a_nil) (len_cons len_nil)) e_int))).pt)).pt (ss_one (s_ret (e_tup (a_cons e_str (a_cons e_str a_nil))))) ss_nil)
    (ss_cons (s_if (t_cmp (op_eqP (u64 hr)) oa_eq (e_var 0) e_str) (ss_one (s_ret (e_tup (a_cons e_str (a_cons (e_if (t_cmp op_lt oa_lt (e_var 1) (e_var 2)) e_int e_int) a_nil))))) ss_nil)
    (ss_cons (s_set sc__law_sum.nd (e_if (t_cmp (op_eqP (u64 hr)) oa_eq (e_var 0) e_str) (e_op op_fdiv oa_fdiv (e_var 1) e_int) (e_if (t_cmp (op_eqP (u64 hr)) oa_eq (e_var 0) e_str) (e_op op_addA oa_add (e_var 1) (e_var 2)) (e_op op_sub oa_sub (e_var 1) (e_var 2)))))
    (ss_one (s_ret (e_if (t_chain op_le oa_le op_le oa_le (e_neg e_int) (e_var 3) e_int) (e_tup (a_cons e_str (a_cons (e_var 3) a_nil))) (e_tup (a_cons e_str (a_cons e_str a_nil)))))))))
theorem f__law_sum {P : Program} {w : World} {K : PySem.W.Frag} {mg : Str → Option Value} {base : Heap} (T : Tx K mg) : Fk P w K mg base 2 "_law_sum" ["_law_deed_here", "_law_a", "_law_b"] m__law_sum := ok__law_sum T (Nat.le_refl _)
theorem ok__law_two {P : Program} {w : World} {K : PySem.W.Frag} {mg : Str → Option Value} {base : Heap} {k : Nat} (T : Tx K mg) (hL : 1 ≤ k) : Fk P w K mg base (k + 1) "_law_two" ["_law_deed_here", "_law_a", "_law_b"] (runF 5 (b__law_two)) := by
  have F__law_kind := f__law_kind (P := P) (w := w) (base := base) T
  exact fk_ok (N := ["_law_deed_here", "_law_a", "_law_b", "_law_found", "_law_one_here"]) T.d__law_two sc__law_two fun f cdv A outer s H E hr tk hp =>
    (ss_cons (s_if (w_or (t_cmp (op_neP (u64 hr)) oa_eq (e_callF F__law_kind hr (Nat.le_trans (by decide) hL) tk (a_cons (e_var 1) a_nil) (len_cons len_nil)) e_int) (w_or1 (w_and (t_cmp (op_inP (u65 hr)) oa_in (e_var 0) (e_tup (a_cons e_str (a_cons e_str a_nil)))) (w_and1 (t_cmp (op_neP (u64 hr)) oa_eq (e_callF F__law_kind hr (Nat.le_trans (by decide) hL) tk (a_cons (e_var 2) a_nil) (len_cons len_nil)) e_int))).pt)).pt (ss_one (s_ret (e_tup (a_cons e_str (a_cons e_str a_nil))))) ss_nil)
    (ss_cons (s_if (t_cmp (op_eqP (u64 hr)) oa_eq (e_var 0) e_str) (ss_one (s_ret (e_tup (a_cons e_str (a_cons (e_tupc T.fr_tuple (a_cons (n_pure (e_lc (own := [("_law_one_here", 4)]) sc__law_two.nd (i_seq (e_var 1)) (blk_of (by kernel_rfl)) (fun s H C cl fp => (g_name sc__law_two.nd)) (fun s H C cl fp => t_yes s H C cl fp _) (fun s H C cl fp => (e_tup (a_cons (e_var 4) (a_cons (e_var 2) a_nil)))))) a_nil)) a_nil))))) ss_nil)
    (ss_cons (s_set sc__law_two.nd (n_new (e_catN (n_pure (e_listN T.fr_list (e_var 1))) (e_if (t_cmp (op_eqP (u64 hr)) oa_eq (e_var 0) e_str) (n_pure (e_lst (a_cons (e_var 2) a_nil))) (n_pure (e_lst a_nil))))))
    (ss_cons (s_if (t_cmp (op_eqP (u64 hr)) oa_eq (e_var 0) e_str) (ss_one (s_ret (e_tup (a_cons e_str (a_cons (e_tupc T.fr_tuple (a_cons (n_pure (e_lc (own := [("_law_one_here", 4)]) sc__law_two.nd (i_seq (e_var 2)) (blk_of (by kernel_rfl)) (fun s H C cl fp => (g_name sc__law_two.nd)) (fun s H C cl fp => t_yes s H C cl fp _) (fun s H C cl fp => (e_indexL (u65 hr) (e_op op_addA oa_add (n_pure (e_listN T.fr_list (e_var 1))) (n_pure (e_lst (a_cons (e_var 4) a_nil)))) (e_var 4))))) a_nil)) a_nil))))) ss_nil)
    (ss_cons (s_if (t_cmp (op_eqP (u64 hr)) oa_eq (e_var 0) e_str) (ss_one (s_for (own := [4]) hp (i_seq (e_var 2)) (g_name sc__law_two.nd) (ss_one (s_if (t_cmp (op_notInP (u65 hr)) oa_in (e_var 4) (e_var 3)) (ss_one (s_expr (e_append (e_var 3) (e_var 4)))) ss_nil)))) ss_nil)
    (ss_one (s_ret (e_if (t_cmp op_le oa_le (e_len T.fr_len (a_cons (e_var 3) a_nil)) e_int) (e_tup (a_cons e_str (a_cons (e_tupc T.fr_tuple (a_cons (e_var 3) a_nil)) a_nil))) (e_tup (a_cons e_str (a_cons e_str a_nil)))))))))))
theorem f__law_two {P : Program} {w : World} {K : PySem.W.Frag} {mg : Str → Option Value} {base : Heap} (T : Tx K mg) : Fk P w K mg base 2 "_law_two" ["_law_deed_here", "_law_a", "_law_b"] m__law_two := ok__law_two T (Nat.le_refl _)
theorem ok__law_one {P : Program} {w : World} {K : PySem.W.Frag} {mg : Str → Option Value} {base : Heap} {k : Nat} (T : Tx K mg) (hL : 1 ≤ k) : Fk P w K mg base (k + 1) "_law_one" ["_law_deed_here", "_law_a", "_law_b"] (runF 4 (b__law_one)) := by
  have F__law_kind := f__law_kind (P := P) (w := w) (base := base) T
  exact fk_ok (N := ["_law_deed_here", "_law_a", "_law_b", "_law_count"]) T.d__law_one sc__law_one fun f cdv A outer s H E hr tk hp =>
    (ss_cons (s_if (w_or (t_cmp (op_neP (u64 hr)) oa_eq (e_callF F__law_kind hr (Nat.le_trans (by decide) hL) tk (a_cons (e_var 1) a_nil) (len_cons len_nil)) e_int) (w_or1 (w_and (t_cmp (op_eqP (u64 hr)) oa_eq (e_var 0) e_str) (w_and1 (t_cmp (op_neP (u64 hr)) oa_eq (e_callF F__law_kind hr (Nat.le_trans (by decide) hL) tk (a_cons (e_var 2) a_nil) (len_cons len_nil)) e_int))).pt)).pt (ss_one (s_ret (e_tup (a_cons e_str (a_cons e_str a_nil))))) ss_nil)
    (ss_cons (s_if (t_cmp (op_eqP (u64 hr)) oa_eq (e_var 0) e_str) (ss_one (s_ret (e_tup (a_cons e_str (a_cons (e_len T.fr_len (a_cons (e_var 1) a_nil)) a_nil))))) ss_nil)
    (ss_cons (s_if (w_and (t_cmp (op_eqP (u64 hr)) oa_eq (e_var 0) e_str) (w_and1 (w_or (t_cmp (op_neP (u64 hr)) oa_eq (e_callF F__law_kind hr (Nat.le_trans (by decide) hL) tk (a_cons (e_var 2) a_nil) (len_cons len_nil)) e_int) (w_or (t_cmp (op_neP (u64 hr)) oa_eq (e_len T.fr_len (a_cons (e_var 2) a_nil)) e_int) (w_or1 (t_cmp (op_neP (u64 hr)) oa_eq (e_callF F__law_kind hr (Nat.le_trans (by decide) hL) tk (a_cons (e_ix (e_var 2) e_int) a_nil) (len_cons len_nil)) e_int)))).pt)).pt (ss_one (s_ret (e_tup (a_cons e_str (a_cons e_str a_nil))))) ss_nil)
    (ss_cons (s_set sc__law_one.nd (e_if (t_cmp (op_eqP (u64 hr)) oa_eq (e_var 0) e_str) (e_var 2) (e_ix (e_var 2) e_int)))
    (ss_cons (s_if (t_not (t_chain op_le oa_le op_lt oa_lt e_int (e_var 3) (e_len T.fr_len (a_cons (e_var 1) a_nil)))) (ss_one (s_ret (e_tup (a_cons e_str (a_cons e_str a_nil))))) ss_nil)
    (ss_one (s_ret (e_tup (a_cons e_str (a_cons (e_if (t_cmp (op_eqP (u64 hr)) oa_eq (e_var 0) e_str) (e_ix (e_var 1) (e_var 3)) (e_op op_addA oa_add (e_op op_addA oa_add (e_slice (e_var 1) o_none (o_some (e_var 3))) (e_tup (a_cons (e_ix (e_var 2) e_int) a_nil))) (e_slice (e_var 1) (o_some (e_op op_addA oa_add (e_var 3) e_int)) o_none))) a_nil))))))))))
theorem f__law_one {P : Program} {w : World} {K : PySem.W.Frag} {mg : Str → Option Value} {base : Heap} (T : Tx K mg) : Fk P w K mg base 2 "_law_one" ["_law_deed_here", "_law_a", "_law_b"] m__law_one := ok__law_one T (Nat.le_refl _)
theorem ok__law_fill {P : Program} {w : World} {K : PySem.W.Frag} {mg : Str → Option Value} {base : Heap} {k : Nat} (T : Tx K mg) (hL : 1 ≤ k) : Fk P w K mg base (k + 1) "_law_fill" ["_law_a", "_law_b"] (runF 5 (b__law_fill)) := by
  have F__law_kind := f__law_kind (P := P) (w := w) (base := base) T
  exact fk_ok (N := ["_law_a", "_law_b", "_law_spots", "_law_at", "_law_one_here"]) T.d__law_fill sc__law_fill fun f cdv A outer s H E hr tk hp =>
    (ss_cons (s_if (w_or (t_cmp (op_neP (u64 hr)) oa_eq (e_callF F__law_kind hr (Nat.le_trans (by decide) hL) tk (a_cons (e_var 0) a_nil) (len_cons len_nil)) e_int) (w_or1 (t_cmp (op_neP (u64 hr)) oa_eq (e_callF F__law_kind hr (Nat.le_trans (by decide) hL) tk (a_cons (e_var 1) a_nil) (len_cons len_nil)) e_int))).pt (ss_one (s_ret (e_tup (a_cons e_str (a_cons e_str a_nil))))) ss_nil)
    (ss_cons (s_set sc__law_fill.nd (n_pure (e_lc (own := [("_law_at", 3), ("_law_one_here", 4)]) sc__law_fill.nd (i_enum' T.fr_enumerate (e_var 0)) (blk_of (by kernel_rfl)) (fun s H C cl fp => (g_tup rfl (gs_cons (g_name sc__law_fill.nd) (gs_cons (g_name sc__law_fill.nd) gs_nil)) rfl)) (fun s H C cl fp => pts_one (w_and (t_cmp (op_eqP (u64 hr)) oa_eq (e_callF F__law_kind hr (Nat.le_trans (by decide) hL) takes0 (a_cons (e_var 4) a_nil) (len_cons len_nil)) e_int) (w_and (t_cmp (op_eqP (u64 hr)) oa_eq (e_len T.fr_len (a_cons (e_var 4) a_nil)) e_int) (w_and1 (t_cmp (op_eqP (u64 hr)) oa_eq (e_ix (e_var 4) e_int) e_str)))).pt) (fun s H C cl fp => (e_var 3)))))
    (ss_cons (s_if (t_not (t_val (e_all T.fr_all (a_cons (n_pure (e_lc (own := [("_law_at", 3)]) sc__law_fill.nd (i_seq (e_var 2)) (blk_of (by kernel_rfl)) (fun s H C cl fp => (g_name sc__law_fill.nd)) (fun s H C cl fp => t_yes s H C cl fp _) (fun s H C cl fp => (e_cmp (op_eqP (u64 hr)) oa_eq (e_callF F__law_kind hr (Nat.le_trans (by decide) hL) takes0 (a_cons (e_ix (e_ix (e_var 0) (e_var 3)) e_int) a_nil) (len_cons len_nil)) e_int)))) a_nil)))) (ss_one (s_ret (e_tup (a_cons e_str (a_cons e_str a_nil))))) ss_nil)
    (ss_cons (s_if (t_not (t_val (e_all T.fr_all (a_cons (n_pure (e_lc (own := [("_law_at", 3)]) sc__law_fill.nd (i_seq (e_var 2)) (blk_of (by kernel_rfl)) (fun s H C cl fp => (g_name sc__law_fill.nd)) (fun s H C cl fp => t_yes s H C cl fp _) (fun s H C cl fp => (e_chain op_le oa_le op_lt oa_lt e_int (e_ix (e_ix (e_var 0) (e_var 3)) e_int) (e_len T.fr_len (a_cons (e_var 1) a_nil)))))) a_nil)))) (ss_one (s_ret (e_tup (a_cons e_str (a_cons e_str a_nil))))) ss_nil)
    (ss_one (s_ret (e_tup (a_cons e_str (a_cons (e_tupc T.fr_tuple (a_cons (n_pure (e_lc (own := [("_law_at", 3), ("_law_one_here", 4)]) sc__law_fill.nd (i_enum' T.fr_enumerate (e_var 0)) (blk_of (by kernel_rfl)) (fun s H C cl fp => (g_tup rfl (gs_cons (g_name sc__law_fill.nd) (gs_cons (g_name sc__law_fill.nd) gs_nil)) rfl)) (fun s H C cl fp => t_yes s H C cl fp _) (fun s H C cl fp => (e_if (t_cmp (op_inP (u65 hr)) oa_in (e_var 3) (e_var 2)) (e_tup (a_cons e_str (a_cons (e_ix (e_var 1) (e_ix (e_var 4) e_int)) a_nil))) (e_var 4))))) a_nil)) a_nil)))))))))
theorem f__law_fill {P : Program} {w : World} {K : PySem.W.Frag} {mg : Str → Option Value} {base : Heap} (T : Tx K mg) : Fk P w K mg base 2 "_law_fill" ["_law_a", "_law_b"] m__law_fill := ok__law_fill T (Nat.le_refl _)
theorem ok__law_is_pair {P : Program} {w : World} {K : PySem.W.Frag} {mg : Str → Option Value} {base : Heap} {k : Nat} (T : Tx K mg) (hL : 1 ≤ k) : Fk P w K mg base (k + 1) "_law_is_pair" ["_law_one_here"] (runF 1 (b__law_is_pair)) := by
  have F__law_kind := f__law_kind (P := P) (w := w) (base := base) T
  exact fk_ok (N := ["_law_one_here"]) T.d__law_is_pair sc__law_is_pair fun f cdv A outer s H E hr tk hp =>
    (ss_one (s_ret (e_and (e_cmp (op_eqP (u64 hr)) oa_eq (e_callF F__law_kind hr (Nat.le_trans (by decide) hL) tk (a_cons (e_var 0) a_nil) (len_cons len_nil)) e_int) (e_and (e_cmp (op_eqP (u64 hr)) oa_eq (e_len T.fr_len (a_cons (e_var 0) a_nil)) e_int) (e_one (e_cmp (op_eqP (u64 hr)) oa_eq (e_ix (e_var 0) e_int) e_str))))))
theorem f__law_is_pair {P : Program} {w : World} {K : PySem.W.Frag} {mg : Str → Option Value} {base : Heap} (T : Tx K mg) : Fk P w K mg base 2 "_law_is_pair" ["_law_one_here"] m__law_is_pair := ok__law_is_pair T (Nat.le_refl _)
theorem ok__law_words {P : Program} {w : World} {K : PySem.W.Frag} {mg : Str → Option Value} {base : Heap} {k : Nat} (T : Tx K mg) (hL : 0 ≤ k) : Fk P w K mg base (k + 1) "_law_words" [] (runF 1 (b__law_words)) := by
  exact fk_ok (N := ["_law_some"]) T.d__law_words sc__law_words fun f cdv A outer s H E hr tk hp =>
    (ss_cons (s_set sc__law_words.nd (n_pure (e_lst (a_cons e_str (a_cons e_str (a_cons e_str (a_cons e_str (a_cons e_str (a_cons e_str (a_cons e_str (a_cons e_str (a_cons e_str (a_cons e_str (a_cons e_str (a_cons e_str a_nil)))))))))))))))
    (ss_one (s_ret (e_op op_addA oa_add (e_var 0) (n_pure (e_lst (a_cons e_str (a_cons e_str (a_cons e_str (a_cons e_str (a_cons e_str (a_cons e_str a_nil))))))))))))
theorem f__law_words {P : Program} {w : World} {K : PySem.W.Frag} {mg : Str → Option Value} {base : Heap} (T : Tx K mg) : Fk P w K mg base 1 "_law_words" [] m__law_words := ok__law_words T (Nat.le_refl _)
theorem ok__law_deed {P : Program} {w : World} {K : PySem.W.Frag} {mg : Str → Option Value} {base : Heap} {k : Nat} (T : Tx K mg) (hL : 2 ≤ k) {r__law_deed : List D → AH → R D} (F__law_deed : Fk P w K mg base k "_law_deed" ["_law_deed_here", "_law_a", "_law_b"] r__law_deed) : Fk P w K mg base (k + 1) "_law_deed" ["_law_deed_here", "_law_a", "_law_b"] (runF 4 (b__law_deed r__law_deed)) := by
  have F__law_kind := f__law_kind (P := P) (w := w) (base := base) T
  have F__law_sum := f__law_sum (P := P) (w := w) (base := base) T
  have F__law_two := f__law_two (P := P) (w := w) (base := base) T
  have F__law_one := f__law_one (P := P) (w := w) (base := base) T
  have F__law_fill := f__law_fill (P := P) (w := w) (base := base) T
  have F__law_is_pair := f__law_is_pair (P := P) (w := w) (base := base) T
  have F__law_words := f__law_words (P := P) (w := w) (base := base) T
  exact fk_ok (N := ["_law_deed_here", "_law_a", "_law_b", "_law_found"]) T.d__law_deed sc__law_deed fun f cdv A outer s H E hr tk hp =>
    (ss_cons (s_if (t_cmp (op_inP (u65 hr)) oa_in (e_var 0) (e_tup (a_cons e_str (a_cons e_str (a_cons e_str (a_cons e_str a_nil)))))) (ss_one (s_ret (e_callF F__law_sum hr (Nat.le_trans (by decide) hL) tk (a_cons (e_var 0) (a_cons (e_var 1) (a_cons (e_var 2) a_nil))) (len_cons (len_cons (len_cons len_nil)))))) ss_nil)
    (ss_cons (s_if (t_cmp (op_inP (u65 hr)) oa_in (e_var 0) (e_tup (a_cons e_str (a_cons e_str (a_cons e_str a_nil))))) (ss_one (s_ret (e_callF F__law_one hr (Nat.le_trans (by decide) hL) tk (a_cons (e_var 0) (a_cons (e_var 1) (a_cons (e_var 2) a_nil))) (len_cons (len_cons (len_cons len_nil)))))) ss_nil)
    (ss_cons (s_if (t_cmp (op_inP (u65 hr)) oa_in (e_var 0) (e_tup (a_cons e_str (a_cons e_str (a_cons e_str (a_cons e_str a_nil)))))) (ss_one (s_ret (e_callF F__law_two hr (Nat.le_trans (by decide) hL) tk (a_cons (e_var 0) (a_cons (e_var 1) (a_cons (e_var 2) a_nil))) (len_cons (len_cons (len_cons len_nil)))))) ss_nil)
    (ss_cons (s_if (t_cmp (op_eqP (u64 hr)) oa_eq (e_var 0) e_str) (ss_one (s_ret (e_callF F__law_fill hr (Nat.le_trans (by decide) hL) tk (a_cons (e_var 1) (a_cons (e_var 2) a_nil)) (len_cons (len_cons len_nil))))) ss_nil)
    (ss_cons (s_if (t_cmp (op_inP (u65 hr)) oa_in (e_var 0) (e_tup (a_cons e_str (a_cons e_str a_nil)))) (ss_cons (s_if (w_or (t_cmp (op_neP (u64 hr)) oa_eq (e_callF F__law_kind hr (Nat.le_trans (by decide) hL) tk (a_cons (e_var 1) a_nil) (len_cons len_nil)) e_int) (w_or (t_cmp (op_notInP (u65 hr)) oa_in (e_var 1) (e_callF0 F__law_words hr (Nat.le_trans (by decide) hL) tk)) (w_or (t_not (t_cmp (op_eqP (u64 hr)) oa_eq (e_callF F__law_kind hr (Nat.le_trans (by decide) hL) tk (a_cons (e_var 2) a_nil) (len_cons len_nil)) e_int)) (w_or1 (t_cmp (op_neP (u64 hr)) oa_eq (e_len T.fr_len (a_cons (e_var 2) a_nil)) e_int))))).pt (ss_one (s_ret (e_tup (a_cons e_str (a_cons e_str a_nil))))) ss_nil)
    (ss_cons (s_if (w_or (t_not (t_val (e_callF F__law_is_pair hr (Nat.le_trans (by decide) hL) tk (a_cons (e_ix (e_var 2) e_int) a_nil) (len_cons len_nil)))) (w_or1 (t_not (t_val (e_callF F__law_is_pair hr (Nat.le_trans (by decide) hL) tk (a_cons (e_ix (e_var 2) e_int) a_nil) (len_cons len_nil)))))).pt (ss_one (s_ret (e_tup (a_cons e_str (a_cons e_str a_nil))))) ss_nil)
    (ss_cons (s_set sc__law_deed.nd (e_callF F__law_deed hr (Nat.le_refl _) tk (a_cons (e_var 1) (a_cons (e_ix (e_ix (e_var 2) e_int) e_int) (a_cons (e_ix (e_ix (e_var 2) e_int) e_int) a_nil))) (len_cons (len_cons (len_cons len_nil)))))
    (ss_cons (s_if (t_cmp (op_eqP (u64 hr)) oa_eq (e_var 0) e_str) (ss_one (s_ret (e_var 3))) ss_nil)
    (ss_one (s_ret (e_tup (a_cons e_str (a_cons (e_if (t_cmp (op_eqP (u64 hr)) oa_eq (e_ix (e_var 3) e_int) e_str) (e_ix (e_var 3) e_int) e_int) a_nil))))))))) ss_nil)
    (ss_cons (s_if (t_cmp (op_eqP (u64 hr)) oa_eq (e_var 0) e_str) (ss_one (s_ret (e_tup (a_cons e_str (a_cons (e_if (t_cmp (op_eqP (u64 hr)) oa_eq (e_var 1) (e_var 2)) e_int e_int) a_nil))))) ss_nil)
    (ss_one (s_ret (e_tup (a_cons e_str (a_cons (e_dget (u1 hr) (e_disp (pps_cons e_str (e_tup (a_cons (e_var 1) (a_cons (e_var 2) a_nil))) (pps_cons e_str (e_var 1) (pps_cons e_str (e_callF F__law_kind hr (Nat.le_trans (by decide) hL) tk (a_cons (e_var 1) a_nil) (len_cons len_nil)) pps_nil)))) (e_var 0)) a_nil)))))))))))
theorem g__law_deed {P : Program} {w : World} {K : PySem.W.Frag} {mg : Str → Option Value} {base : Heap} (T : Tx K mg) : ∀ n : Nat, Fk P w K mg base (2 + n) "_law_deed" ["_law_deed_here", "_law_a", "_law_b"] (l__law_deed n)
  | 0 => fk_stuck T.d__law_deed
  | n + 1 => by
    have ih := g__law_deed (P := P) (w := w) (base := base) T n
    have F__law_deed := ih
    exact ok__law_deed T (Nat.le_add_right _ _) F__law_deed
theorem f__law_deed {P : Program} {w : World} {K : PySem.W.Frag} {mg : Str → Option Value} {base : Heap} (T : Tx K mg) : Fk P w K mg base 26 "_law_deed" ["_law_deed_here", "_law_a", "_law_b"] m__law_deed := (g__law_deed T 24)
theorem ok__law_worth {P : Program} {w : World} {K : PySem.W.Frag} {mg : Str → Option Value} {base : Heap} {k : Nat} (T : Tx K mg) (hL : 1 ≤ k) {r__law_worth : List D → AH → R D} (F__law_worth : Fk P w K mg base k "_law_worth" ["_law_draws_here", "_law_deep"] r__law_worth) : Fk P w K mg base (k + 1) "_law_worth" ["_law_draws_here", "_law_deep"] (runF 4 (b__law_worth r__law_worth)) := by
  have F__law_by := f__law_by (P := P) (w := w) (base := base) T
  exact fk_ok (N := ["_law_draws_here", "_law_deep", "_law_kind_here", "_law_at"]) T.d__law_worth sc__law_worth fun f cdv A outer s H E hr tk hp =>
    (ss_cons (s_set sc__law_worth.nd (e_callF F__law_by hr (Nat.le_trans (by decide) hL) tk (a_cons (e_var 0) (a_cons e_int a_nil)) (len_cons (len_cons len_nil))))
    (ss_cons (s_if (w_or (t_cmp op_lt oa_lt (e_var 2) e_int) (w_or1 (w_and (t_cmp (op_eqP (u64 hr)) oa_eq (e_var 1) e_int) (w_and1 (t_cmp op_gt oa_gt (e_var 2) e_int))).pt)).pt (ss_one (s_ret (e_ix (n_pure (e_lst (a_cons e_int (a_cons e_int (a_cons e_int (a_cons (e_neg e_int) (a_cons e_int (a_cons (e_neg e_int) (a_cons e_int a_nil))))))))) (e_callF F__law_by hr (Nat.le_trans (by decide) hL) tk (a_cons (e_var 0) (a_cons e_int a_nil)) (len_cons (len_cons len_nil)))))) ss_nil)
    (ss_cons (s_if (t_cmp op_lt oa_lt (e_var 2) e_int) (ss_one (s_ret (e_ix (n_pure (e_lst (a_cons e_str (a_cons e_str (a_cons e_str (a_cons e_str (a_cons e_str (a_cons e_str (a_cons e_str (a_cons e_str a_nil)))))))))) (e_callF F__law_by hr (Nat.le_trans (by decide) hL) tk (a_cons (e_var 0) (a_cons e_int a_nil)) (len_cons (len_cons len_nil)))))) ss_nil)
    (ss_cons (s_if (t_cmp (op_eqP (u64 hr)) oa_eq (e_var 2) e_int) (ss_one (s_ret (e_tup (a_cons (e_ix (n_pure (e_lst (a_cons e_str (a_cons e_str a_nil)))) (e_callF F__law_by hr (Nat.le_trans (by decide) hL) tk (a_cons (e_var 0) (a_cons e_int a_nil)) (len_cons (len_cons len_nil)))) (a_cons (e_callF F__law_worth hr (Nat.le_refl _) tk (a_cons (e_var 0) (a_cons (e_op op_sub oa_sub (e_var 1) e_int) a_nil)) (len_cons (len_cons len_nil))) a_nil))))) ss_nil)
    (ss_cons (s_if (t_cmp (op_eqP (u64 hr)) oa_eq (e_var 2) e_int) (ss_one (s_ret (e_tup (a_cons (e_tup (a_cons e_str (a_cons (e_callF F__law_worth hr (Nat.le_refl _) tk (a_cons (e_var 0) (a_cons (e_op op_sub oa_sub (e_var 1) e_int) a_nil)) (len_cons (len_cons len_nil))) a_nil))) (a_cons (e_tup (a_cons e_str (a_cons (e_callF F__law_worth hr (Nat.le_refl _) tk (a_cons (e_var 0) (a_cons (e_op op_sub oa_sub (e_var 1) e_int) a_nil)) (len_cons (len_cons len_nil))) a_nil))) a_nil))))) ss_nil)
    (ss_one (s_ret (e_tupc T.fr_tuple (a_cons (n_pure (e_lc (own := [("_law_at", 3)]) sc__law_worth.nd (i_range1 T.fr_range (e_callF F__law_by hr (Nat.le_trans (by decide) hL) tk (a_cons (e_var 0) (a_cons e_int a_nil)) (len_cons (len_cons len_nil)))) (blk_of (by kernel_rfl)) (fun s H C cl fp => (g_name sc__law_worth.nd)) (fun s H C cl fp => t_yes s H C cl fp _) (fun s H C cl fp => (e_callF F__law_worth hr (Nat.le_refl _) takes0 (a_cons (e_var 0) (a_cons (e_op op_sub oa_sub (e_var 1) e_int) a_nil)) (len_cons (len_cons len_nil)))))) a_nil)))))))))
theorem g__law_worth {P : Program} {w : World} {K : PySem.W.Frag} {mg : Str → Option Value} {base : Heap} (T : Tx K mg) : ∀ n : Nat, Fk P w K mg base (1 + n) "_law_worth" ["_law_draws_here", "_law_deep"] (l__law_worth n)
  | 0 => fk_stuck T.d__law_worth
  | n + 1 => by
    have ih := g__law_worth (P := P) (w := w) (base := base) T n
    have F__law_worth := ih
    exact ok__law_worth T (Nat.le_add_right _ _) F__law_worth
theorem f__law_worth {P : Program} {w : World} {K : PySem.W.Frag} {mg : Str → Option Value} {base : Heap} (T : Tx K mg) : Fk P w K mg base 7 "_law_worth" ["_law_draws_here", "_law_deep"] m__law_worth := (g__law_worth T 6)
theorem ok__law_fit {P : Program} {w : World} {K : PySem.W.Frag} {mg : Str → Option Value} {base : Heap} {k : Nat} (T : Tx K mg) (hL : 7 ≤ k) {r__law_fit : List D → AH → R D} (F__law_fit : Fk P w K mg base k "_law_fit" ["_law_draws_here", "_law_deed_here"] r__law_fit) : Fk P w K mg base (k + 1) "_law_fit" ["_law_draws_here", "_law_deed_here"] (runF 10 (b__law_fit r__law_fit)) := by
  have F__law_by := f__law_by (P := P) (w := w) (base := base) T
  have F__law_words := f__law_words (P := P) (w := w) (base := base) T
  have F__law_worth := f__law_worth (P := P) (w := w) (base := base) T
  exact fk_ok (N := ["_law_draws_here", "_law_deed_here", "_law_one_here", "_law_other", "_law_turn", "_law_some", "_law_word", "_law_first", "_law_second", "_law_at"]) T.d__law_fit sc__law_fit fun f cdv A outer s H E hr tk hp =>
    (ss_cons (s_par3 sc__law_fit.nd (a_cons (e_callF F__law_worth hr (Nat.le_trans (by decide) hL) tk (a_cons (e_var 0) (a_cons e_int a_nil)) (len_cons (len_cons len_nil))) (a_cons (e_callF F__law_worth hr (Nat.le_trans (by decide) hL) tk (a_cons (e_var 0) (a_cons e_int a_nil)) (len_cons (len_cons len_nil))) (a_cons (e_callF F__law_by hr (Nat.le_trans (by decide) hL) tk (a_cons (e_var 0) (a_cons e_int a_nil)) (len_cons (len_cons len_nil))) a_nil))))
    (ss_cons (s_set sc__law_fit.nd (e_tupc T.fr_tuple (a_cons (n_pure (e_lc (own := [("_law_at", 9)]) sc__law_fit.nd (i_range1 T.fr_range (e_op op_addA oa_add e_int (e_callF F__law_by hr (Nat.le_trans (by decide) hL) tk (a_cons (e_var 0) (a_cons e_int a_nil)) (len_cons (len_cons len_nil))))) (blk_of (by kernel_rfl)) (fun s H C cl fp => (g_name sc__law_fit.nd)) (fun s H C cl fp => t_yes s H C cl fp _) (fun s H C cl fp => (e_callF F__law_worth hr (Nat.le_trans (by decide) hL) takes0 (a_cons (e_var 0) (a_cons e_int a_nil)) (len_cons (len_cons len_nil)))))) a_nil)))
    (ss_cons (s_if (t_cmp (op_eqP (u64 hr)) oa_eq (e_var 4) e_int) (ss_one (s_ret (e_tup (a_cons (e_var 2) (a_cons (e_var 3) a_nil))))) ss_nil)
    (ss_cons (s_if (t_cmp (op_inP (u65 hr)) oa_in (e_var 1) (e_tup (a_cons e_str (a_cons e_str (a_cons e_str (a_cons e_str (a_cons e_str a_nil))))))) (ss_one (s_ret (e_tup (a_cons (e_ix (n_pure (e_lst (a_cons e_int (a_cons e_int (a_cons (e_neg e_int) (a_cons (e_neg e_int) (a_cons e_int (a_cons e_int a_nil)))))))) (e_callF F__law_by hr (Nat.le_trans (by decide) hL) tk (a_cons (e_var 0) (a_cons e_int a_nil)) (len_cons (len_cons len_nil)))) (a_cons (e_ix (n_pure (e_lst (a_cons e_int (a_cons e_int (a_cons (e_neg e_int) (a_cons e_int (a_cons (e_neg e_int) (a_cons e_int a_nil)))))))) (e_callF F__law_by hr (Nat.le_trans (by decide) hL) tk (a_cons (e_var 0) (a_cons e_int a_nil)) (len_cons (len_cons len_nil)))) a_nil))))) ss_nil)
    (ss_cons (s_if (t_cmp (op_inP (u65 hr)) oa_in (e_var 1) (e_tup (a_cons e_str (a_cons e_str a_nil)))) (ss_cons (s_set sc__law_fit.nd (e_ix (e_callF0 F__law_words hr (Nat.le_trans (by decide) hL) tk) (e_callF F__law_by hr (Nat.le_trans (by decide) hL) tk (a_cons (e_var 0) (a_cons e_int a_nil)) (len_cons (len_cons len_nil)))))
    (ss_cons (s_asg (own := [7, 8]) (e_if (t_cmp (op_notInP (u65 hr)) oa_in (e_var 6) (e_tup (a_cons e_str (a_cons e_str a_nil)))) (e_callF F__law_fit hr (Nat.le_refl _) tk (a_cons (e_var 0) (a_cons (e_var 6) a_nil)) (len_cons (len_cons len_nil))) (e_tup (a_cons (e_var 2) (a_cons (e_var 3) a_nil)))) (g_tup rfl (gs_cons (g_name sc__law_fit.nd) (gs_cons (g_name sc__law_fit.nd) gs_nil)) rfl))
    (ss_one (s_ret (e_tup (a_cons (e_var 6) (a_cons (e_tup (a_cons (e_tup (a_cons e_str (a_cons (e_var 7) a_nil))) (a_cons (e_tup (a_cons e_str (a_cons (e_var 8) a_nil))) a_nil))) a_nil))))))) ss_nil)
    (ss_cons (s_if (t_cmp (op_eqP (u64 hr)) oa_eq (e_var 1) e_str) (ss_cons (s_set sc__law_fit.nd (e_op op_addA oa_add (e_var 5) (e_tup (a_cons (e_tup (a_cons e_str (a_cons (e_op op_sub oa_sub (e_callF F__law_by hr (Nat.le_trans (by decide) hL) tk (a_cons (e_var 0) (a_cons e_int a_nil)) (len_cons (len_cons len_nil))) e_int) a_nil))) (a_cons (e_tup (a_cons e_str (a_cons (e_var 2) a_nil))) a_nil)))))
    (ss_one (s_ret (e_tup (a_cons (e_var 5) (a_cons (e_tupc T.fr_tuple (a_cons (n_pure (e_repN (n_pure (e_lst (a_cons (e_var 3) a_nil))) (e_callF F__law_by hr (Nat.le_trans (by decide) hL) tk (a_cons (e_var 0) (a_cons e_int a_nil)) (len_cons (len_cons len_nil))))) a_nil)) a_nil)))))) ss_nil)
    (ss_cons (s_if (t_cmp (op_eqP (u64 hr)) oa_eq (e_var 1) e_str) (ss_one (s_ret (e_tup (a_cons (e_var 5) (a_cons (e_tup (a_cons (e_op op_sub oa_sub (e_callF F__law_by hr (Nat.le_trans (by decide) hL) tk (a_cons (e_var 0) (a_cons e_int a_nil)) (len_cons (len_cons len_nil))) e_int) (a_cons (e_var 3) a_nil))) a_nil))))) ss_nil)
    (ss_one (s_ret (e_tup (a_cons (e_var 5) (a_cons (e_if (t_cmp (op_eqP (u64 hr)) oa_eq (e_var 1) e_str) (e_op op_sub oa_sub (e_callF F__law_by hr (Nat.le_trans (by decide) hL) tk (a_cons (e_var 0) (a_cons e_int a_nil)) (len_cons (len_cons len_nil))) e_int) (e_if (t_cmp (op_eqP (u64 hr)) oa_eq (e_var 4) e_int) (e_op op_addA oa_add (e_slice (e_var 5) o_none (o_some e_int)) (e_tup (a_cons (e_var 3) (a_cons (e_var 3) a_nil)))) (e_var 3))) a_nil))))))))))))
theorem g__law_fit {P : Program} {w : World} {K : PySem.W.Frag} {mg : Str → Option Value} {base : Heap} (T : Tx K mg) : ∀ n : Nat, Fk P w K mg base (7 + n) "_law_fit" ["_law_draws_here", "_law_deed_here"] (l__law_fit n)
  | 0 => fk_stuck T.d__law_fit
  | n + 1 => by
    have ih := g__law_fit (P := P) (w := w) (base := base) T n
    have F__law_fit := ih
    exact ok__law_fit T (Nat.le_add_right _ _) F__law_fit
theorem f__law_fit {P : Program} {w : World} {K : PySem.W.Frag} {mg : Str → Option Value} {base : Heap} (T : Tx K mg) : Fk P w K mg base 11 "_law_fit" ["_law_draws_here", "_law_deed_here"] m__law_fit := (g__law_fit T 4)
theorem ok__law_all_right {P : Program} {w : World} {K : PySem.W.Frag} {mg : Str → Option Value} {base : Heap} {k : Nat} (T : Tx K mg) (hL : 64 ≤ k) : Fk P w K mg base (k + 1) "_law_all_right" ["_law_script"] (runF 13 (b__law_all_right)) := by
  have F_is_worth := f_is_worth (P := P) (w := w) (base := base) T
  have F_done := f_done (P := P) (w := w) (base := base) T
  have F__law_cell_at := f__law_cell_at (P := P) (w := w) (base := base) T
  have F__law_draws := f__law_draws (P := P) (w := w) (base := base) T
  have F__law_deed := f__law_deed (P := P) (w := w) (base := base) T
  have F__law_words := f__law_words (P := P) (w := w) (base := base) T
  have F__law_fit := f__law_fit (P := P) (w := w) (base := base) T
  exact fk_ok (N := ["_law_script", "_law_k", "_law_at", "_law_deed_here", "_law_one_here", "_law_other", "_law_cell", "_law_many", "_law_lots", "_law_more", "_law_bad", "_law_pair", "_law_word"]) T.d__law_all_right sc__law_all_right fun f cdv A outer s H E hr tk hp =>
    (ss_cons (s_for (own := [1]) hp (i_range1 T.fr_range e_int) (g_name sc__law_all_right.nd) (ss_one (s_for (own := [2, 3]) hp (i_enum' T.fr_enumerate (e_callF0 F__law_words hr (Nat.le_trans (by decide) hL) tk)) (g_tup rfl (gs_cons (g_name sc__law_all_right.nd) (gs_cons (g_name sc__law_all_right.nd) gs_nil)) rfl) (ss_cons (s_asg (own := [4, 5]) (e_callF F__law_fit hr (Nat.le_trans (by decide) hL) tk (a_cons (e_callF F__law_draws hr (Nat.le_trans (by decide) hL) tk (a_cons (e_var 0) (a_cons (e_op op_addA oa_add (e_op op_mul oa_mul e_int (e_var 1)) (e_op op_mul oa_mul e_int (e_var 2))) (a_cons e_int a_nil))) (len_cons (len_cons (len_cons len_nil)))) (a_cons (e_var 3) a_nil)) (len_cons (len_cons len_nil))) (g_tup rfl (gs_cons (g_name sc__law_all_right.nd) (gs_cons (g_name sc__law_all_right.nd) gs_nil)) rfl))
    (ss_cons (s_if (w_or (t_not (t_val (e_callF F_is_worth hr (Nat.le_trans (by decide) hL) tk (a_cons (e_var 4) a_nil) (len_cons len_nil)))) (w_or1 (t_not (t_val (e_callF F_is_worth hr (Nat.le_trans (by decide) hL) tk (a_cons (e_var 5) a_nil) (len_cons len_nil)))))).pt (ss_one (s_ret e_bl)) ss_nil)
    (ss_one (s_if (t_cmp (op_neP (u64 hr)) oa_eq (e_callF F_done hr (Nat.le_trans (by decide) hL) tk (a_cons (e_var 3) (a_cons (e_var 4) (a_cons (e_var 5) a_nil))) (len_cons (len_cons (len_cons len_nil)))) (e_callF F__law_deed hr (Nat.le_trans (by decide) hL) tk (a_cons (e_var 3) (a_cons (e_var 4) (a_cons (e_var 5) a_nil))) (len_cons (len_cons (len_cons len_nil))))) (ss_one (s_ret e_bl)) ss_nil)))))))
    (ss_cons (s_set sc__law_all_right.nd (e_callF F__law_cell_at hr (Nat.le_trans (by decide) hL) tk (a_cons (e_var 0) (a_cons e_int a_nil)) (len_cons (len_cons len_nil))))
    (ss_cons (s_set sc__law_all_right.nd (e_tupRg T.fr_tuple T.fr_range (e_op op_addA oa_add e_int (e_op op_mod oa_mod (e_var 6) e_int))))
    (ss_cons (s_set sc__law_all_right.nd (n_pure (e_lst (a_cons (e_tup (a_cons e_str (a_cons e_str a_nil))) (a_cons (e_tup (a_cons e_str (a_cons (e_tup (a_cons e_str (a_cons e_str (a_cons e_int a_nil)))) a_nil))) (a_cons (e_tup (a_cons e_str (a_cons e_int a_nil))) (a_cons (e_tup (a_cons e_str (a_cons (e_tup (a_cons e_int (a_cons e_str a_nil))) a_nil))) a_nil)))))))
    (ss_cons (s_set sc__law_all_right.nd (e_op op_addA oa_add (e_var 8) (n_pure (e_lst (a_cons (e_tup (a_cons e_str (a_cons (e_tup (a_cons e_int (a_cons e_int (a_cons e_str a_nil)))) a_nil))) (a_cons (e_tup (a_cons e_str (a_cons e_int a_nil))) a_nil))))))
    (ss_cons (s_for (own := [3, 9]) hp (i_seq (e_var 8)) (g_tup rfl (gs_cons (g_name sc__law_all_right.nd) (gs_cons (g_name sc__law_all_right.nd) gs_nil)) rfl) (ss_one (s_if (t_cmp (op_neP (u64 hr)) oa_eq (e_callF F_done hr (Nat.le_trans (by decide) hL) tk (a_cons (e_var 3) (a_cons (e_var 7) (a_cons (e_var 9) a_nil))) (len_cons (len_cons (len_cons len_nil)))) (e_callF F__law_deed hr (Nat.le_trans (by decide) hL) tk (a_cons (e_var 3) (a_cons (e_var 7) (a_cons (e_var 9) a_nil))) (len_cons (len_cons (len_cons len_nil))))) (ss_one (s_ret e_bl)) ss_nil)))
    (ss_cons (s_set sc__law_all_right.nd (n_pure (e_lst (a_cons e_int (a_cons (e_neg e_int) (a_cons e_bl (a_cons e_non (a_cons e_str (a_cons e_str (a_cons e_str (a_cons e_str (a_cons (n_pure (e_lst (a_cons e_int a_nil))) (a_cons (e_tup (a_cons e_non a_nil)) (a_cons (e_tup (a_cons e_int (a_cons (e_tup (a_cons e_bl a_nil)) a_nil))) a_nil))))))))))))))
    (ss_cons (s_set sc__law_all_right.nd (e_op op_addA oa_add (e_var 8) (n_pure (e_lst (a_cons (e_tupRg T.fr_tuple T.fr_range e_int) (a_cons e_dict0 a_nil))))))
    (ss_cons (s_for (own := [10]) hp (i_seq (e_var 8)) (g_name sc__law_all_right.nd) (ss_cons (s_if (t_val (e_callF F_is_worth hr (Nat.le_trans (by decide) hL) tk (a_cons (e_var 10) a_nil) (len_cons len_nil))) (ss_one (s_ret e_bl)) ss_nil)
    (ss_one (s_for (own := [11]) hp (i_seq (n_pure (e_lst (a_cons (e_tup (a_cons (e_var 10) (a_cons e_int a_nil))) (a_cons (e_tup (a_cons e_int (a_cons (e_var 10) a_nil))) a_nil))))) (g_name sc__law_all_right.nd) (ss_one (s_tryOnly ⟨rfl, by decide, Or.inl T.n_BadWorth⟩ T.mt_BadWorth tk (fun W pn xe tk' hp' => (ss_cons (s_expr (e_callF F_done hr (Nat.le_trans (by decide) hL) tk' (a_cons e_str (a_cons (e_ix (e_var 11) e_int) (a_cons (e_ix (e_var 11) e_int) a_nil))) (len_cons (len_cons (len_cons len_nil)))))
    (ss_one (s_ret e_bl)))) (fun a oe cls d pn y hz hd => (ss_one s_cnt))))))))
    (ss_cons (s_for (own := [12]) hp (i_seq (n_pure (e_lst (a_cons e_str (a_cons e_str (a_cons e_non (a_cons e_int (a_cons e_str (a_cons (e_tup a_nil) a_nil))))))))) (g_name sc__law_all_right.nd) (ss_one (s_tryOnly ⟨rfl, by decide, Or.inl T.n_BadDeed⟩ T.mt_BadDeed tk (fun W pn xe tk' hp' => (ss_cons (s_expr (e_callF F_done hr (Nat.le_trans (by decide) hL) tk' (a_cons (e_var 12) (a_cons e_non (a_cons e_non a_nil))) (len_cons (len_cons (len_cons len_nil)))))
    (ss_one (s_ret e_bl)))) (fun a oe cls d pn y hz hd => (ss_one s_cnt)))))
    (ss_one (s_ret (e_and (e_callF F_is_worth hr (Nat.le_trans (by decide) hL) tk (a_cons (e_tup a_nil) a_nil) (len_cons len_nil)) (e_and (e_callF F_is_worth hr (Nat.le_trans (by decide) hL) tk (a_cons (e_tupRg T.fr_tuple T.fr_range e_int) a_nil) (len_cons len_nil)) (e_and (e_callF F_is_worth hr (Nat.le_trans (by decide) hL) tk (a_cons e_str a_nil) (len_cons len_nil)) (e_one (e_callF F_is_worth hr (Nat.le_trans (by decide) hL) tk (a_cons (e_tup (a_cons (e_neg e_int) (a_cons (e_tup (a_cons e_str (a_cons (e_tup a_nil) a_nil))) a_nil))) a_nil) (len_cons len_nil))))))))))))))))))
theorem f__law_all_right {P : Program} {w : World} {K : PySem.W.Frag} {mg : Str → Option Value} {base : Heap} (T : Tx K mg) : Fk P w K mg base 65 "_law_all_right" ["_law_script"] m__law_all_right := ok__law_all_right T (Nat.le_refl _)
theorem ok_law {P : Program} {w : World} {K : PySem.W.Frag} {mg : Str → Option Value} {base : Heap} {k : Nat} (T : Tx K mg) (hL : 65 ≤ k) : Fk P w K mg base (k + 1) "law" ["_law_script"] (runF 1 (b_law)) := by
  have F__law_all_right := f__law_all_right (P := P) (w := w) (base := base) T
  exact fk_ok (N := ["_law_script"]) T.d_law sc_law fun f cdv A outer s H E hr tk hp =>
    (ss_one (s_tryOnly ⟨rfl, by decide, Or.inl T.n_LeadError⟩ T.mt_LeadError tk (fun W pn xe tk' hp' => (ss_one (s_ret (e_callF F__law_all_right hr (Nat.le_trans (by decide) hL) tk' (a_cons (e_var 0) a_nil) (len_cons len_nil))))) (fun a oe cls d pn y hz hd => (ss_one (s_ret e_bl)))))
theorem f_law {P : Program} {w : World} {K : PySem.W.Frag} {mg : Str → Option Value} {base : Heap} (T : Tx K mg) : Fk P w K mg base 66 "law" ["_law_script"] m_law := ok_law T (Nat.le_refl _)
end RF

set_option maxRecDepth 100000
set_option maxHeartbeats 1000000
namespace RF
open PySem PySem.Spec
/-! ### the programs, unfolded -/
theorem varE_ok {σ : SL} {h : AH} {i : Nat} {d : D} (e : σ[i]? = some (some d)) : varE i σ h = .ok d h := by unfold varE; rw [e]
/-! ### data -/
def okw : List Str := ["a", "b", "e", "c", "copy", "plus", "minus", "half", "less", "same", "kind", "many", "at", "add", "put", "pair", "union", "counts", "spread", "fill", "do", "falls", "abcdefgh"]
def deeds : List Str := ["copy", "plus", "minus", "half", "less", "same", "kind", "many", "at", "add", "put", "pair", "union", "counts", "spread", "fill", "do", "falls"]
/-- a worth, at most n deep -/
def wdB : Nat → D → Bool
  | _, .int i => decide (-9999 ≤ i ∧ i ≤ 9999)
  | _, .str x => decide (x ∈ okw)
  | n + 1, .tup l => Nat.ble l.length 5000 && l.all (wdB n)
  | _, _ => false
def Wd (n : Nat) (d : D) : Prop := wdB n d = true
theorem Wd.ty_ {n : Nat} {d : D} (h : Wd n d) : wdB n d = true := h
theorem okw_ok {x : Str} (h : x ∈ okw) : PyData.strOk x = true := by
  have : ∀ x ∈ okw, PyData.strOk x = true := by decide +kernel
  exact this x h
theorem Wd.cases {n : Nat} {d : D} (h : Wd n d) : (∃ i, d = .int i ∧ -9999 ≤ i ∧ i ≤ 9999) ∨ (∃ x, d = .str x ∧ x ∈ okw) ∨ ∃ m l, n = m + 1 ∧ d = .tup l ∧ l.length ≤ 5000 ∧ ∀ e ∈ l, Wd m e := by
  unfold Wd at h ⊢
  cases d with
  | int i => exact .inl ⟨i, rfl, by cases n <;> simpa [wdB] using h⟩
  | str x => exact .inr (.inl ⟨x, rfl, by cases n <;> simpa [wdB] using h⟩)
  | tup l =>
    cases n with
    | zero => simp [wdB] at h
    | succ m =>
      simp only [wdB, Bool.and_eq_true, List.all_eq_true] at h
      exact .inr (.inr ⟨m, l, rfl, rfl, Nat.le_of_ble_eq_true h.1, h.2⟩)
  | _ => cases n <;> simp [wdB] at h
theorem Wd.int {n : Nat} {i : Int} (h : -9999 ≤ i ∧ i ≤ 9999) : Wd n (.int i) := by unfold Wd; cases n <;> simpa [wdB] using h
theorem Wd.str {n : Nat} {x : Str} (h : x ∈ okw) : Wd n (.str x) := by unfold Wd; cases n <;> simpa [wdB] using h
theorem Wd.tup {n : Nat} {l : List D} (hz : l.length ≤ 5000) (h : ∀ e ∈ l, Wd n e) : Wd (n + 1) (.tup l) := by
  unfold Wd
  simp only [wdB, Bool.and_eq_true, List.all_eq_true]
  exact ⟨Nat.ble_eq.mpr hz, h⟩
theorem Wd.mono {n : Nat} : ∀ {m : Nat} {d : D}, Wd n d → n ≤ m → Wd m d := by
  induction n with
  | zero =>
    intro m d h _
    rcases h.cases with ⟨i, rfl, hi⟩ | ⟨x, rfl, hx⟩ | ⟨k, l, e, _⟩
    · exact .int hi
    · exact .str hx
    · cases e
  | succ n ih =>
    intro m d h hm
    rcases h.cases with ⟨i, rfl, hi⟩ | ⟨x, rfl, hx⟩ | ⟨k, l, e, rfl, hz, hl⟩
    · exact .int hi
    · exact .str hx
    · cases e
      cases m with
      | zero => omega
      | succ m => exact .tup hz fun e he => ih (hl e he) (by omega)
/-- as data -/
def Pd (d : D) : PyData := (toPy0 d).getD .none
def Pds (l : List D) : List PyData := l.map Pd
theorem pys_of : ∀ {l : List D}, (∀ e ∈ l, toPy0 e = some (Pd e)) → toPys0 l = some (Pds l)
  | [], _ => rfl
  | d :: l, h => by
    have h1 := h d List.mem_cons_self
    have h2 := pys_of (l := l) fun e he => h e (List.mem_cons_of_mem _ he)
    unfold toPys0
    rw [h1, h2]
    rfl
theorem depthAll_le {n : Nat} : ∀ {l : List PyData}, (∀ p ∈ l, p.depth ≤ n) → PyData.depthAll l ≤ n
  | [], _ => Nat.zero_le _
  | p :: l, h => by
    unfold PyData.depthAll
    exact Nat.max_le.mpr ⟨h p List.mem_cons_self, depthAll_le fun q hq => h q (List.mem_cons_of_mem _ hq)⟩
theorem canAll {l : List PyData} (h : ∀ p ∈ l, p.canLay0 = true) : PyData.canLayAll0 l = true := by
  induction l with
  | nil => rfl
  | cons p l ih =>
    unfold PyData.canLayAll0
    rw [h p List.mem_cons_self, ih fun q hq => h q (List.mem_cons_of_mem _ hq)]
    rfl
theorem Wd.py : ∀ {n : Nat} {d : D}, Wd n d → toPy0 d = some (Pd d) ∧ (Pd d).depth ≤ n ∧ (Pd d).canLay0 = true := by
  intro n
  induction n with
  | zero =>
    intro d h
    rcases h.cases with ⟨i, rfl, _⟩ | ⟨x, rfl, hx⟩ | ⟨m, l, e, _⟩
    · exact ⟨rfl, Nat.le_refl _, rfl⟩
    · have e : toPy0 (.str x) = some (.str x) := by unfold toPy0; rw [if_pos (okw_ok hx)]
      unfold Pd
      rw [e]
      exact ⟨rfl, Nat.le_refl _, okw_ok hx⟩
    · cases e
  | succ n ih =>
    intro d h
    rcases h.cases with ⟨i, rfl, _⟩ | ⟨x, rfl, hx⟩ | ⟨m, l, e, rfl, _, hl⟩
    · exact ⟨rfl, Nat.zero_le _, rfl⟩
    · have e : toPy0 (.str x) = some (.str x) := by unfold toPy0; rw [if_pos (okw_ok hx)]
      unfold Pd
      rw [e]
      exact ⟨rfl, Nat.zero_le _, okw_ok hx⟩
    · cases e
      have e : toPy0 (.tup l) = some (.tuple (Pds l)) := by
        unfold toPy0
        rw [pys_of fun e he => (ih (hl e he)).1]
        rfl
      unfold Pd
      rw [e]
      refine ⟨rfl, ?_, ?_⟩
      · show PyData.depthAll (Pds l) + 1 ≤ n + 1
        refine Nat.succ_le_succ (depthAll_le fun p hp => ?_)
        obtain ⟨e, he, rfl⟩ := List.mem_map.mp hp
        exact (ih (hl e he)).2.1
      · show PyData.canLayAll0 (Pds l) = true
        refine canAll fun p hp => ?_
        obtain ⟨e, he, rfl⟩ := List.mem_map.mp hp
        exact (ih (hl e he)).2.2
theorem toPy_eq {h : AH} {d : D} (e : ∀ i, d ≠ .ref i) : toPy h d = toPy0 d := by
  cases d with
  | ref i => exact absurd rfl (e i)
  | _ => rfl
theorem Wd.noref {n : Nat} {d : D} (h : Wd n d) : ∀ i, d ≠ .ref i := fun i e => by
  subst e
  rcases h.cases with ⟨_, e, _⟩ | ⟨_, e, _⟩ | ⟨_, _, _, e, _⟩ <;> cases e
theorem Wd.toPy {n : Nat} {d : D} {h : AH} (w : Wd n d) : toPy h d = some (Pd d) := by rw [toPy_eq w.noref]; exact w.py.1
def eqP (x y : D) : Bool := PyData.eqv (Pd x) (Pd y)
theorem eqD_ok {n m : Nat} {b : Bool} {x y : D} {h : AH} (hx : Wd n x) (hy : Wd m y) (hn : n ≤ 64) : eqD b x y h = .ok (.bl (b ^^ eqP x y)) h := by
  unfold eqD
  rw [hx.toPy, hy.toPy]
  have := hx.py.2.1
  have hb : Nat.ble (min (Pd x).depth (Pd y).depth) 64 = true := Nat.ble_eq.mpr (by omega)
  simp only [hb, if_true]
  rfl
theorem eqD_int {b : Bool} {i j : Int} {h : AH} : eqD b (.int i) (.int j) h = .ok (.bl (b ^^ decide (i = j))) h := by
  unfold eqD
  show (if Nat.ble (min 0 0) 64 = true then R.ok (D.bl (b ^^ PyData.eqv (.int i) (.int j))) h else .stuck) = _
  have e : PyData.eqv (.int i) (.int j) = decide (i = j) := by simp [PyData.eqv, BEq.beq]
  rw [e]
  rfl
/-- 0 a number, 1 a word, 2 a list -/
def kd : D → Int
  | .tup _ => 2
  | .str _ => 1
  | _ => 0
theorem isi_ok {T : Ty} {t : Ty} {d : D} {m : E1 D} {σ : SL} {h h' : AH} (e : m σ h = .ok d h') (ht : tyOf h' d = some t) : isiE T m σ h = .ok (.bl (t.sub T)) h' := by
  unfold isiE
  rw [e]
  show (match tyOf h' d with
    | some t => R.ok (D.bl (t.sub T)) h'
    | none => .stuck) = _
  rw [ht]
def Wd.ty : D → Ty
  | .tup _ => .tuple
  | .str _ => .str
  | _ => .int
theorem Wd.tyOf {n : Nat} {d : D} {h : AH} (w : Wd n d) : tyOf h d = some (Wd.ty d) := by
  rcases w.cases with ⟨i, rfl, _⟩ | ⟨x, rfl, hx⟩ | ⟨m, l, e, rfl, _, hl⟩ <;> rfl
theorem kind_ok {n : Nat} {d : D} {h : AH} (w : Wd n d) : m_kind_of [d] h = .ok (.int (kd d)) h := by
  rcases w.cases with ⟨i, rfl, _⟩ | ⟨x, rfl, hx⟩ | ⟨m, l, e, rfl, _, hl⟩ <;> rfl
theorem lkind_ok {n : Nat} {d : D} {h : AH} (w : Wd n d) : m__law_kind [d] h = .ok (.int (kd d)) h := by
  rcases w.cases with ⟨i, rfl, _⟩ | ⟨x, rfl, hx⟩ | ⟨m, l, e, rfl, _, hl⟩ <;> rfl
/-! ### comprehensions of pure steps -/
theorem compL_map {g : G1} {tt : E1 Bool} {elt : E1 D} {σ : SL} {h : AH} {σg : D → SL} {f : D → D} : ∀ {l : List D}, (∀ d ∈ l, g d σ = some (σg d)) → (∀ d ∈ l, tt (σg d) h = .ok true h) → (∀ d ∈ l, elt (σg d) h = .ok (f d) h) → compL g tt elt l σ h = .ok (l.map f) h
  | [], _, _, _ => rfl
  | d :: l, h1, h2, h3 => by
    unfold compL
    rw [h1 d List.mem_cons_self]
    simp only [h2 d List.mem_cons_self, R.nox, R.bind, if_true, h3 d List.mem_cons_self]
    rw [compL_map (l := l) (fun e he => h1 e (List.mem_cons_of_mem _ he)) (fun e he => h2 e (List.mem_cons_of_mem _ he)) (fun e he => h3 e (List.mem_cons_of_mem _ he))]
    rfl
theorem compL_filter {g : G1} {tt : E1 Bool} {elt : E1 D} {σ : SL} {h : AH} {σg : D → SL} {f : D → D} {p : D → Bool} : ∀ {l : List D}, (∀ d ∈ l, g d σ = some (σg d)) → (∀ d ∈ l, tt (σg d) h = .ok (p d) h) → (∀ d ∈ l, p d = true → elt (σg d) h = .ok (f d) h) → compL g tt elt l σ h = .ok ((l.filter p).map f) h
  | [], _, _, _ => rfl
  | d :: l, h1, h2, h3 => by
    unfold compL
    rw [h1 d List.mem_cons_self]
    have ih := compL_filter (l := l) (f := f) (p := p) (fun e he => h1 e (List.mem_cons_of_mem _ he)) (fun e he => h2 e (List.mem_cons_of_mem _ he)) (fun e he => h3 e (List.mem_cons_of_mem _ he))
    simp only [h2 d List.mem_cons_self, R.nox, R.bind]
    cases hp : p d with
    | true =>
      simp only [if_true, h3 d List.mem_cons_self hp, List.filter_cons, hp, List.map_cons]
      rw [ih]
    | false => simp only [Bool.false_eq_true, if_false, List.filter_cons, hp, ih]
end RF

set_option maxRecDepth 100000
set_option maxHeartbeats 1000000
namespace RF
open PySem PySem.Spec
/-- what a deed tells, or by which word it falls -/
inductive Res where
  | w (d : D) | f (x : Str)
def fal (x : Str) (h : AH) : R D := .exc ⟨"Fallen", [("word", .str x)]⟩ h
def Res.p (r : Res) (h : AH) : R D := match r with
  | .w d => .ok d h
  | .f x => fal x h
def Res.l (r : Res) : D := match r with
  | .w d => .tup [.str "worth", d]
  | .f x => .tup [.str "fall", .str x]
theorem comp_ok {own : List Nat} {src : E1 (List D)} {g : G1} {tt : E1 Bool} {elt : E1 D} {σ : SL} {h h1 : AH} {l : List D} {r : R (List D)} (es : src σ h = .ok l h1) (hz : l.length ≤ 16777216) (ec : compL g tt elt l (wipeD σ own) h1 = r) : compE own src g tt elt σ h = r := by
  unfold compE
  rw [es]
  show (if Nat.ble l.length 16777216 = true then _ else _) = _
  rw [if_pos (Nat.ble_eq.mpr hz)]
  exact ec
theorem seqE_ok {m : E1 D} {σ : SL} {h h1 : AH} {d : D} {l : List D} (e : m σ h = .ok d h1) (es : seqOf d = some l) : seqE m σ h = .ok l h1 := by
  unfold seqE
  rw [e]
  show (match seqOf d with
    | some l => R.ok l h1
    | none => .stuck) = _
  rw [es]
theorem blsOf_map {f : D → Bool} : ∀ l : List D, blsOf (l.map fun d => .bl (f d)) = some (l.map f)
  | [] => rfl
  | d :: l => by
    show blsOf (.bl (f d) :: l.map fun d => .bl (f d)) = _
    unfold blsOf
    rw [blsOf_map l]
    rfl
theorem check_ok {n : Nat} {ds : List D} {k : Int} {h : AH} (hw : ∀ d ∈ ds, Wd n d) (hz : ds.length ≤ 16777216) : m_check_kinds [.lst ds, .int k] h = if ds.any (fun d => decide (kd d ≠ k)) then fal "kind" h else .ok .non h := by
  unfold m_check_kinds runF b_check_kinds
  have e : compE [2] (seqE (varE 0)) (gN 2) yesE (opE (eqD true) (callF m_kind_of (consE (varE 2) (pureE []))) (varE 1)) (startD 3 [.lst ds, .int k]) h = .ok (ds.map fun d => .bl (decide (kd d ≠ k))) h := by
    refine comp_ok (l := ds) (h1 := h) (seqE_ok (d := .lst ds) rfl rfl) hz ?_
    refine compL_map (σg := fun d => [some (.lst ds), some (.int k), some d]) (fun d hd => rfl) (fun d hd => rfl) (fun d hd => ?_)
    show ((m_kind_of [d] h).bind fun x h1 => (R.ok (D.int k) h1).bind fun y h2 => eqD true x y h2) = _
    rw [kind_ok (hw d hd)]
    show eqD true (.int (kd d)) (.int k) h = _
    rw [eqD_int]
    simp
  have e2 : (valT (callE (un1 (allC true)) (consE (pureL (compE [2] (seqE (varE 0)) (gN 2) yesE (opE (eqD true) (callF m_kind_of (consE (varE 2) (pureE []))) (varE 1)))) (pureE [])))) (startD 3 [.lst ds, .int k]) h = .ok (ds.any fun d => decide (kd d ≠ k)) h := by
    simp only [valT, callE, consE, pureL, e, R.bind, pureE, un1, allC, lstOf, Option.bind, blsOf_map, getO, if_true, List.any_map]
    rfl
  simp only [ifS, e2, R.toS]
  cases ds.any fun d => decide (kd d ≠ k) with
  | true => rfl
  | false => rfl
end RF

set_option maxRecDepth 100000
set_option maxHeartbeats 1000000
namespace RF
open PySem PySem.Spec
/-- data that may be compared -/
def Py (m : Nat) (d : D) : Prop := ∃ p, toPy0 d = some p ∧ p.depth ≤ m ∧ p.canLay0 = true
theorem Wd.Py {n : Nat} {d : D} (w : Wd n d) : Py n d := ⟨Pd d, w.py⟩
theorem Py.mono {m n : Nat} {d : D} (p : Py m d) (h : m ≤ n) : Py n d := let ⟨q, h1, h2, h3⟩ := p; ⟨q, h1, Nat.le_trans h2 h, h3⟩
theorem Py.int {m : Nat} {i : Int} : Py m (.int i) := ⟨.int i, rfl, Nat.zero_le _, rfl⟩
theorem Py.str {m : Nat} {x : Str} (hx : PyData.strOk x = true) : Py m (.str x) := ⟨.str x, by unfold toPy0; rw [if_pos hx], Nat.zero_le _, hx⟩
theorem Pys {m : Nat} : ∀ {l : List D}, (∀ e ∈ l, Py m e) → ∃ ps, toPys0 l = some ps ∧ PyData.depthAll ps ≤ m ∧ PyData.canLayAll0 ps = true
  | [], _ => ⟨[], rfl, Nat.zero_le _, rfl⟩
  | d :: l, h => by
    obtain ⟨p, p1, p2, p3⟩ := h d List.mem_cons_self
    obtain ⟨ps, q1, q2, q3⟩ := Pys (l := l) fun e he => h e (List.mem_cons_of_mem _ he)
    refine ⟨p :: ps, ?_, ?_, ?_⟩
    · unfold toPys0; rw [p1, q1]
    · unfold PyData.depthAll; exact Nat.max_le.mpr ⟨p2, q2⟩
    · unfold PyData.canLayAll0; rw [p3, q3]; rfl
theorem Py.tup {m : Nat} {l : List D} (h : ∀ e ∈ l, Py m e) : Py (m + 1) (.tup l) := by
  obtain ⟨ps, q1, q2, q3⟩ := Pys h
  refine ⟨.tuple ps, ?_, ?_, ?_⟩
  · unfold toPy0; rw [q1]; rfl
  · exact Nat.succ_le_succ q2
  · unfold PyData.canLay0; exact q3
theorem Py.noref {m : Nat} {d : D} (p : Py m d) : ∀ i, d ≠ .ref i := fun i e => by
  subst e
  obtain ⟨p, h, _⟩ := p
  cases h
/-- equal data are equal -/
theorem ne_self {m : Nat} {d : D} {h : AH} (p : Py m d) (hm : m ≤ 64) : eqD true d d h = .ok (.bl false) h := by
  obtain ⟨q, h1, h2, h3⟩ := id p
  unfold eqD
  rw [toPy_eq p.noref, h1]
  have hb : Nat.ble (min q.depth q.depth) 64 = true := Nat.ble_eq.mpr (by omega)
  simp only [hb, if_true, SeqAt.eqv_refl q h3]
  rfl
def Rok (r : Res) : Prop := match r with
  | .w d => Py 40 d
  | .f x => PyData.strOk x = true
theorem Rok.Py {r : Res} (h : Rok r) : Py 41 r.l := by
  cases r with
  | w d =>
    refine Py.tup (l := [.str "worth", d]) fun e he => ?_
    rcases List.mem_cons.mp he with rfl | he
    · exact Py.str (by decide +kernel)
    · rw [List.mem_singleton.mp he]; exact h
  | f x =>
    refine Py.tup (l := [.str "fall", .str x]) fun e he => ?_
    rcases List.mem_cons.mp he with rfl | he
    · exact Py.str (by decide +kernel)
    · rw [List.mem_singleton.mp he]; exact Py.str h
/-- both tell the same -/
def Ag (pm lm : List D → AH → R D) (args : List D) : Prop := ∃ r, Rok r ∧ (∀ h, ∃ g, pm args h = r.p (h ++ g)) ∧ (∀ h, ∃ g, lm args h = .ok r.l (h ++ g))
theorem ret_out {r : R D} {σ : SL} : (r.toS σ fun d h => SR.rt d h).out = r := by cases r <;> rfl
theorem nopP {pm : List D → AH → R D} {args : List D} {r : Res} (e : ∀ h, pm args h = r.p h) : ∀ h, ∃ g, pm args h = r.p (h ++ g) := fun h => ⟨[], by rw [List.append_nil]; exact e h⟩
theorem nopL {lm : List D → AH → R D} {args : List D} {r : Res} (e : ∀ h, lm args h = .ok r.l h) : ∀ h, ∃ g, lm args h = .ok r.l (h ++ g) := fun h => ⟨[], by rw [List.append_nil]; exact e h⟩
/-- told_by of a deed that makes no longer list -/
theorem told_eq {j : Nat} {x : Str} {a b : D} {h : AH} (hx : ∀ h, inD false (.str x) c_MAKING h = .ok (.bl false) h) : l_told_by (j + 1) [.str x, a, b] h = l_made_by j [.str x, a, b] h := by
  show (runF 4 (b_told_by (l_reflected j) (l_made_by j) (l_told_by j))) [.str x, a, b] h = _
  unfold runF b_told_by
  cases e : l_made_by j [.str x, a, b] h with
  | ok d h1 => simp [runF, startD, SR.out, retS, seqS, ifS, setS, dropS, nopS, R.toS, R.bind, pureE, consE, callE, callF, opE, unE, negD, chE, andE, orE, notE, ifE, valT, andT, orT, notT, un1, tupE, dispE, pureL, varE, sized, raiseF, fal, Res.p, Res.l, e, hx]
  | exc y h1 => simp [runF, startD, SR.out, retS, seqS, ifS, setS, dropS, nopS, R.toS, R.bind, pureE, consE, callE, callF, opE, unE, negD, chE, andE, orE, notE, ifE, valT, andT, orT, notT, un1, tupE, dispE, pureL, varE, sized, raiseF, fal, Res.p, Res.l, e]
  | stuck => simp [runF, startD, SR.out, retS, seqS, ifS, setS, dropS, nopS, R.toS, R.bind, pureE, consE, callE, callF, opE, unE, negD, chE, andE, orE, notE, ifE, valT, andT, orT, notT, un1, tupE, dispE, pureL, varE, sized, raiseF, fal, Res.p, Res.l, e]
theorem told_mk {j : Nat} {x : Str} {a b : D} {h h1 : AH} {l : List D} (hx : ∀ h, inD false (.str x) c_MAKING h = .ok (.bl true) h) (e : l_made_by j [.str x, a, b] h = .ok (.tup l) h1) : l_told_by (j + 1) [.str x, a, b] h = if 5000 < l.length then fal "big" h1 else .ok (.tup l) h1 := by
  show (runF 4 (b_told_by (l_reflected j) (l_made_by j) (l_told_by j))) [.str x, a, b] h = _
  unfold runF b_told_by
  by_cases hl : 5000 < l.length
  · have hl' : (5000 : Int) < (l.length : Int) := by omega
    simp [runF, startD, SR.out, retS, seqS, ifS, setS, dropS, nopS, R.toS, R.bind, pureE, consE, callE, callF, opE, unE, negD, chE, andE, orE, notE, ifE, valT, andT, orT, notT, un1, tupE, dispE, pureL, varE, sized, raiseF, fal, Res.p, Res.l, e, hx, lenD, intD, gtF, hl, hl']
  · have hl' : ¬ (5000 : Int) < (l.length : Int) := by omega
    simp [runF, startD, SR.out, retS, seqS, ifS, setS, dropS, nopS, R.toS, R.bind, pureE, consE, callE, callF, opE, unE, negD, chE, andE, orE, notE, ifE, valT, andT, orT, notT, un1, tupE, dispE, pureL, varE, sized, raiseF, fal, Res.p, Res.l, e, hx, lenD, intD, gtF, hl, hl']
theorem told_ex {j : Nat} {x : Str} {a b : D} {h h1 : AH} {y : Exn} (e : l_made_by j [.str x, a, b] h = .exc y h1) : l_told_by (j + 1) [.str x, a, b] h = .exc y h1 := by
  show (runF 4 (b_told_by (l_reflected j) (l_made_by j) (l_told_by j))) [.str x, a, b] h = _
  unfold runF b_told_by
  simp [runF, startD, SR.out, retS, seqS, ifS, setS, dropS, nopS, R.toS, R.bind, pureE, consE, callE, callF, opE, unE, negD, chE, andE, orE, notE, ifE, valT, andT, orT, notT, un1, tupE, dispE, pureL, varE, sized, raiseF, fal, Res.p, Res.l, e]
/-! ### sums -/
theorem chk2 {n : Nat} {a b : D} {h : AH} {k : Int} (ha : Wd n a) (hb : Wd n b) : m_check_kinds [.lst [a, b], .int k] h = if kd a ≠ k ∨ kd b ≠ k then fal "kind" h else .ok .non h := by
  rw [check_ok (n := n) (by intro d hd; simp at hd; rcases hd with rfl | rfl <;> assumption) (by simp)]
  by_cases h1 : kd a = k <;> by_cases h2 : kd b = k <;> simp [h1, h2]
theorem chk1 {n : Nat} {a : D} {h : AH} {k : Int} (ha : Wd n a) : m_check_kinds [.lst [a], .int k] h = if kd a ≠ k then fal "kind" h else .ok .non h := by
  rw [check_ok (n := n) (by intro d hd; simp at hd; rcases hd with rfl; assumption) (by simp)]
  by_cases h1 : kd a = k <;> simp [h1]
theorem kd0 {n : Nat} {a : D} (w : Wd n a) (h : kd a = 0) : ∃ i, a = .int i ∧ -9999 ≤ i ∧ i ≤ 9999 := by
  rcases w.cases with ⟨i, rfl, hi⟩ | ⟨x, rfl, hx⟩ | ⟨m, l, e, rfl, _, hl⟩
  · exact ⟨i, rfl, hi⟩
  · cases h
  · cases h
theorem kd2 {n : Nat} {a : D} (w : Wd n a) (h : kd a = 2) : ∃ m l, n = m + 1 ∧ a = .tup l ∧ l.length ≤ 5000 ∧ ∀ e ∈ l, Wd m e := by
  rcases w.cases with ⟨i, rfl, hi⟩ | ⟨x, rfl, hx⟩ | q
  · cases h
  · cases h
  · exact q
theorem kd1 {n : Nat} {a : D} (w : Wd n a) (h : kd a = 1) : ∃ x, a = .str x ∧ x ∈ okw := by
  rcases w.cases with ⟨i, rfl, hi⟩ | ⟨x, rfl, hx⟩ | ⟨m, l, e, rfl, _, hl⟩
  · cases h
  · exact ⟨x, rfl, hx⟩
  · cases h
end RF

set_option maxRecDepth 100000
set_option maxHeartbeats 1000000
namespace RF
open PySem PySem.Spec
theorem seq_ret {c : E1 Bool} {m : E1 D} {B : S1} {σ : SL} {h : AH} (e : c σ h = .ok true h) : (seqS (ifS c (retS m) nopS) B σ h).out = m σ h := by
  unfold seqS ifS retS
  rw [e]
  show SR.out (match (m σ h).toS σ (fun d h1 => .rt d h1) with
    | .nx σ1 h1 => B σ1 h1
    | r => r) = _
  cases m σ h <;> rfl
theorem seq_skip {c : E1 Bool} {A B : S1} {σ : SL} {h : AH} (e : c σ h = .ok false h) : seqS (ifS c A nopS) B σ h = B σ h := by
  unfold seqS ifS
  rw [e]
  rfl
theorem last_ret {m : E1 D} {σ : SL} {h : AH} : (retS m σ h).out = m σ h := by
  unfold retS
  exact ret_out

theorem made_plus {j : Nat} {a b : D} {h : AH} : l_made_by (j + 1) [.str "plus", a, b] h = m_summed [.str "plus", a, b] h := by
  show (b_made_by (l_reflected j) (l_made_by j) (l_told_by j) (startD 3 [.str "plus", a, b]) h).out = _
  unfold b_made_by
  skip
  exact (seq_ret (by kernel_rfl)).trans (by kernel_rfl)
theorem made_minus {j : Nat} {a b : D} {h : AH} : l_made_by (j + 1) [.str "minus", a, b] h = m_summed [.str "minus", a, b] h := by
  show (b_made_by (l_reflected j) (l_made_by j) (l_told_by j) (startD 3 [.str "minus", a, b]) h).out = _
  unfold b_made_by
  skip
  exact (seq_ret (by kernel_rfl)).trans (by kernel_rfl)
theorem made_half {j : Nat} {a b : D} {h : AH} : l_made_by (j + 1) [.str "half", a, b] h = m_summed [.str "half", a, b] h := by
  show (b_made_by (l_reflected j) (l_made_by j) (l_told_by j) (startD 3 [.str "half", a, b]) h).out = _
  unfold b_made_by
  skip
  exact (seq_ret (by kernel_rfl)).trans (by kernel_rfl)
theorem made_less {j : Nat} {a b : D} {h : AH} : l_made_by (j + 1) [.str "less", a, b] h = m_summed [.str "less", a, b] h := by
  show (b_made_by (l_reflected j) (l_made_by j) (l_told_by j) (startD 3 [.str "less", a, b]) h).out = _
  unfold b_made_by
  skip
  exact (seq_ret (by kernel_rfl)).trans (by kernel_rfl)
theorem made_many {j : Nat} {a b : D} {h : AH} : l_made_by (j + 1) [.str "many", a, b] h = m_listed [.str "many", a, b] h := by
  show (b_made_by (l_reflected j) (l_made_by j) (l_told_by j) (startD 3 [.str "many", a, b]) h).out = _
  unfold b_made_by
  rw [seq_skip (by kernel_rfl)]
  exact (seq_ret (by kernel_rfl)).trans (by kernel_rfl)
theorem made_at {j : Nat} {a b : D} {h : AH} : l_made_by (j + 1) [.str "at", a, b] h = m_listed [.str "at", a, b] h := by
  show (b_made_by (l_reflected j) (l_made_by j) (l_told_by j) (startD 3 [.str "at", a, b]) h).out = _
  unfold b_made_by
  rw [seq_skip (by kernel_rfl)]
  exact (seq_ret (by kernel_rfl)).trans (by kernel_rfl)
theorem made_add {j : Nat} {a b : D} {h : AH} : l_made_by (j + 1) [.str "add", a, b] h = m_listed [.str "add", a, b] h := by
  show (b_made_by (l_reflected j) (l_made_by j) (l_told_by j) (startD 3 [.str "add", a, b]) h).out = _
  unfold b_made_by
  rw [seq_skip (by kernel_rfl)]
  exact (seq_ret (by kernel_rfl)).trans (by kernel_rfl)
theorem made_union {j : Nat} {a b : D} {h : AH} : l_made_by (j + 1) [.str "union", a, b] h = m_listed [.str "union", a, b] h := by
  show (b_made_by (l_reflected j) (l_made_by j) (l_told_by j) (startD 3 [.str "union", a, b]) h).out = _
  unfold b_made_by
  rw [seq_skip (by kernel_rfl)]
  exact (seq_ret (by kernel_rfl)).trans (by kernel_rfl)
theorem made_counts {j : Nat} {a b : D} {h : AH} : l_made_by (j + 1) [.str "counts", a, b] h = m_listed [.str "counts", a, b] h := by
  show (b_made_by (l_reflected j) (l_made_by j) (l_told_by j) (startD 3 [.str "counts", a, b]) h).out = _
  unfold b_made_by
  rw [seq_skip (by kernel_rfl)]
  exact (seq_ret (by kernel_rfl)).trans (by kernel_rfl)
theorem made_spread {j : Nat} {a b : D} {h : AH} : l_made_by (j + 1) [.str "spread", a, b] h = m_listed [.str "spread", a, b] h := by
  show (b_made_by (l_reflected j) (l_made_by j) (l_told_by j) (startD 3 [.str "spread", a, b]) h).out = _
  unfold b_made_by
  rw [seq_skip (by kernel_rfl)]
  exact (seq_ret (by kernel_rfl)).trans (by kernel_rfl)
theorem made_do {j : Nat} {a b : D} {h : AH} : l_made_by (j + 1) [.str "do", a, b] h = l_reflected j [.str "do", a, b] h := by
  show (b_made_by (l_reflected j) (l_made_by j) (l_told_by j) (startD 3 [.str "do", a, b]) h).out = _
  unfold b_made_by
  rw [seq_skip (by kernel_rfl), seq_skip (by kernel_rfl)]
  exact (seq_ret (by kernel_rfl)).trans (by kernel_rfl)
theorem made_falls {j : Nat} {a b : D} {h : AH} : l_made_by (j + 1) [.str "falls", a, b] h = l_reflected j [.str "falls", a, b] h := by
  show (b_made_by (l_reflected j) (l_made_by j) (l_told_by j) (startD 3 [.str "falls", a, b]) h).out = _
  unfold b_made_by
  rw [seq_skip (by kernel_rfl), seq_skip (by kernel_rfl)]
  exact (seq_ret (by kernel_rfl)).trans (by kernel_rfl)
theorem made_put {j : Nat} {a b : D} {h : AH} : l_made_by (j + 1) [.str "put", a, b] h = m_put_in [a, b] h := by
  show (b_made_by (l_reflected j) (l_made_by j) (l_told_by j) (startD 3 [.str "put", a, b]) h).out = _
  unfold b_made_by
  rw [seq_skip (by kernel_rfl), seq_skip (by kernel_rfl), seq_skip (by kernel_rfl)]
  exact (seq_ret (by kernel_rfl)).trans (by kernel_rfl)
theorem made_fill {j : Nat} {a b : D} {h : AH} : l_made_by (j + 1) [.str "fill", a, b] h = m_filled [a, b] h := by
  show (b_made_by (l_reflected j) (l_made_by j) (l_told_by j) (startD 3 [.str "fill", a, b]) h).out = _
  unfold b_made_by
  rw [seq_skip (by kernel_rfl), seq_skip (by kernel_rfl), seq_skip (by kernel_rfl), seq_skip (by kernel_rfl)]
  exact (seq_ret (by kernel_rfl)).trans (by kernel_rfl)
theorem made_pair {j : Nat} {a b : D} {h : AH} : l_made_by (j + 1) [.str "pair", a, b] h = .ok (.tup [a, b]) h := by
  show (b_made_by (l_reflected j) (l_made_by j) (l_told_by j) (startD 3 [.str "pair", a, b]) h).out = _
  unfold b_made_by
  rw [seq_skip (by kernel_rfl), seq_skip (by kernel_rfl), seq_skip (by kernel_rfl), seq_skip (by kernel_rfl), seq_skip (by kernel_rfl)]
  exact (seq_ret (by kernel_rfl)).trans (by kernel_rfl)
theorem made_kind {j : Nat} {a b : D} {h : AH} : l_made_by (j + 1) [.str "kind", a, b] h = m_kind_of [a] h := by
  show (b_made_by (l_reflected j) (l_made_by j) (l_told_by j) (startD 3 [.str "kind", a, b]) h).out = _
  unfold b_made_by
  rw [seq_skip (by kernel_rfl), seq_skip (by kernel_rfl), seq_skip (by kernel_rfl), seq_skip (by kernel_rfl), seq_skip (by kernel_rfl), seq_skip (by kernel_rfl), seq_skip (by kernel_rfl)]
  exact last_ret.trans (by kernel_rfl)
theorem made_copy {j : Nat} {a b : D} {h : AH} : l_made_by (j + 1) [.str "copy", a, b] h = .ok a h := by
  show (b_made_by (l_reflected j) (l_made_by j) (l_told_by j) (startD 3 [.str "copy", a, b]) h).out = _
  unfold b_made_by
  rw [seq_skip (by kernel_rfl), seq_skip (by kernel_rfl), seq_skip (by kernel_rfl), seq_skip (by kernel_rfl), seq_skip (by kernel_rfl), seq_skip (by kernel_rfl), seq_skip (by kernel_rfl)]
  exact last_ret.trans (by kernel_rfl)
theorem made_same {j : Nat} {a b : D} {h : AH} : l_made_by (j + 1) [.str "same", a, b] h = (eqD false a b h).bind fun x h1 => intC x h1 := by
  show (b_made_by (l_reflected j) (l_made_by j) (l_told_by j) (startD 3 [.str "same", a, b]) h).out = _
  unfold b_made_by
  rw [seq_skip (by kernel_rfl), seq_skip (by kernel_rfl), seq_skip (by kernel_rfl), seq_skip (by kernel_rfl), seq_skip (by kernel_rfl), seq_skip (by kernel_rfl)]
  refine (seq_ret (by kernel_rfl)).trans ?_
  show (((eqD false a b h).bind fun x h1 => (R.ok [] h1).bind fun l h2 => .ok (x :: l) h2).bind (un1 intC)) = _
  cases eqD false a b h <;> rfl
theorem ldeed_plus {k : Nat} {a b : D} {h : AH} : l__law_deed (k + 1) [.str "plus", a, b] h = m__law_sum [.str "plus", a, b] h := by
  show (b__law_deed (l__law_deed k) (startD 4 [.str "plus", a, b]) h).out = _
  unfold b__law_deed
  skip
  exact (seq_ret (by kernel_rfl)).trans (by kernel_rfl)
theorem ldeed_minus {k : Nat} {a b : D} {h : AH} : l__law_deed (k + 1) [.str "minus", a, b] h = m__law_sum [.str "minus", a, b] h := by
  show (b__law_deed (l__law_deed k) (startD 4 [.str "minus", a, b]) h).out = _
  unfold b__law_deed
  skip
  exact (seq_ret (by kernel_rfl)).trans (by kernel_rfl)
theorem ldeed_half {k : Nat} {a b : D} {h : AH} : l__law_deed (k + 1) [.str "half", a, b] h = m__law_sum [.str "half", a, b] h := by
  show (b__law_deed (l__law_deed k) (startD 4 [.str "half", a, b]) h).out = _
  unfold b__law_deed
  skip
  exact (seq_ret (by kernel_rfl)).trans (by kernel_rfl)
theorem ldeed_less {k : Nat} {a b : D} {h : AH} : l__law_deed (k + 1) [.str "less", a, b] h = m__law_sum [.str "less", a, b] h := by
  show (b__law_deed (l__law_deed k) (startD 4 [.str "less", a, b]) h).out = _
  unfold b__law_deed
  skip
  exact (seq_ret (by kernel_rfl)).trans (by kernel_rfl)
theorem ldeed_many {k : Nat} {a b : D} {h : AH} : l__law_deed (k + 1) [.str "many", a, b] h = m__law_one [.str "many", a, b] h := by
  show (b__law_deed (l__law_deed k) (startD 4 [.str "many", a, b]) h).out = _
  unfold b__law_deed
  rw [seq_skip (by kernel_rfl)]
  exact (seq_ret (by kernel_rfl)).trans (by kernel_rfl)
theorem ldeed_at {k : Nat} {a b : D} {h : AH} : l__law_deed (k + 1) [.str "at", a, b] h = m__law_one [.str "at", a, b] h := by
  show (b__law_deed (l__law_deed k) (startD 4 [.str "at", a, b]) h).out = _
  unfold b__law_deed
  rw [seq_skip (by kernel_rfl)]
  exact (seq_ret (by kernel_rfl)).trans (by kernel_rfl)
theorem ldeed_put {k : Nat} {a b : D} {h : AH} : l__law_deed (k + 1) [.str "put", a, b] h = m__law_one [.str "put", a, b] h := by
  show (b__law_deed (l__law_deed k) (startD 4 [.str "put", a, b]) h).out = _
  unfold b__law_deed
  rw [seq_skip (by kernel_rfl)]
  exact (seq_ret (by kernel_rfl)).trans (by kernel_rfl)
theorem ldeed_add {k : Nat} {a b : D} {h : AH} : l__law_deed (k + 1) [.str "add", a, b] h = m__law_two [.str "add", a, b] h := by
  show (b__law_deed (l__law_deed k) (startD 4 [.str "add", a, b]) h).out = _
  unfold b__law_deed
  rw [seq_skip (by kernel_rfl), seq_skip (by kernel_rfl)]
  exact (seq_ret (by kernel_rfl)).trans (by kernel_rfl)
theorem ldeed_union {k : Nat} {a b : D} {h : AH} : l__law_deed (k + 1) [.str "union", a, b] h = m__law_two [.str "union", a, b] h := by
  show (b__law_deed (l__law_deed k) (startD 4 [.str "union", a, b]) h).out = _
  unfold b__law_deed
  rw [seq_skip (by kernel_rfl), seq_skip (by kernel_rfl)]
  exact (seq_ret (by kernel_rfl)).trans (by kernel_rfl)
theorem ldeed_counts {k : Nat} {a b : D} {h : AH} : l__law_deed (k + 1) [.str "counts", a, b] h = m__law_two [.str "counts", a, b] h := by
  show (b__law_deed (l__law_deed k) (startD 4 [.str "counts", a, b]) h).out = _
  unfold b__law_deed
  rw [seq_skip (by kernel_rfl), seq_skip (by kernel_rfl)]
  exact (seq_ret (by kernel_rfl)).trans (by kernel_rfl)
theorem ldeed_spread {k : Nat} {a b : D} {h : AH} : l__law_deed (k + 1) [.str "spread", a, b] h = m__law_two [.str "spread", a, b] h := by
  show (b__law_deed (l__law_deed k) (startD 4 [.str "spread", a, b]) h).out = _
  unfold b__law_deed
  rw [seq_skip (by kernel_rfl), seq_skip (by kernel_rfl)]
  exact (seq_ret (by kernel_rfl)).trans (by kernel_rfl)
theorem ldeed_fill {k : Nat} {a b : D} {h : AH} : l__law_deed (k + 1) [.str "fill", a, b] h = m__law_fill [a, b] h := by
  show (b__law_deed (l__law_deed k) (startD 4 [.str "fill", a, b]) h).out = _
  unfold b__law_deed
  rw [seq_skip (by kernel_rfl), seq_skip (by kernel_rfl), seq_skip (by kernel_rfl)]
  exact (seq_ret (by kernel_rfl)).trans (by kernel_rfl)
theorem mk_plus (h : AH) : inD false (.str "plus") c_MAKING h = .ok (.bl false) h := by kernel_rfl
theorem mk_minus (h : AH) : inD false (.str "minus") c_MAKING h = .ok (.bl false) h := by kernel_rfl
theorem mk_half (h : AH) : inD false (.str "half") c_MAKING h = .ok (.bl false) h := by kernel_rfl
theorem mk_less (h : AH) : inD false (.str "less") c_MAKING h = .ok (.bl false) h := by kernel_rfl
theorem mk_many (h : AH) : inD false (.str "many") c_MAKING h = .ok (.bl false) h := by kernel_rfl
theorem mk_at (h : AH) : inD false (.str "at") c_MAKING h = .ok (.bl false) h := by kernel_rfl
theorem mk_counts (h : AH) : inD false (.str "counts") c_MAKING h = .ok (.bl false) h := by kernel_rfl
theorem mk_spread (h : AH) : inD false (.str "spread") c_MAKING h = .ok (.bl false) h := by kernel_rfl
theorem mk_do (h : AH) : inD false (.str "do") c_MAKING h = .ok (.bl false) h := by kernel_rfl
theorem mk_falls (h : AH) : inD false (.str "falls") c_MAKING h = .ok (.bl false) h := by kernel_rfl
theorem mk_put (h : AH) : inD false (.str "put") c_MAKING h = .ok (.bl false) h := by kernel_rfl
theorem mk_fill (h : AH) : inD false (.str "fill") c_MAKING h = .ok (.bl false) h := by kernel_rfl
theorem mk_pair (h : AH) : inD false (.str "pair") c_MAKING h = .ok (.bl false) h := by kernel_rfl
theorem mk_kind (h : AH) : inD false (.str "kind") c_MAKING h = .ok (.bl false) h := by kernel_rfl
theorem mk_copy (h : AH) : inD false (.str "copy") c_MAKING h = .ok (.bl false) h := by kernel_rfl
theorem mk_same (h : AH) : inD false (.str "same") c_MAKING h = .ok (.bl false) h := by kernel_rfl
theorem mk_add (h : AH) : inD false (.str "add") c_MAKING h = .ok (.bl true) h := by kernel_rfl
theorem mk_union (h : AH) : inD false (.str "union") c_MAKING h = .ok (.bl true) h := by kernel_rfl
end RF

set_option maxRecDepth 100000
set_option maxHeartbeats 1000000
namespace RF
open PySem PySem.Spec
theorem ok_kind : PyData.strOk "kind" = true := by decide +kernel
theorem ok_big : PyData.strOk "big" = true := by decide +kernel
theorem ok_out : PyData.strOk "out" = true := by decide +kernel
theorem seqS_exc {m : E1 D} {B : S1} {σ : SL} {h h1 : AH} {x : Exn} (e : m σ h = .exc x h1) : seqS (dropS m) B σ h = .exc x σ h1 := by
  unfold seqS dropS
  rw [e]
  rfl
theorem seqS_ok {m : E1 D} {B : S1} {σ : SL} {h h1 : AH} {d : D} (e : m σ h = .ok d h1) : seqS (dropS m) B σ h = B σ h1 := by
  unfold seqS dropS
  rw [e]
  rfl

theorem sum_bad_plus {n : Nat} {a b : D} {h : AH} (ha : Wd n a) (hb : Wd n b) (hc : ¬ (kd a = 0 ∧ kd b = 0)) : m_summed [.str "plus", a, b] h = fal "kind" h ∧ m__law_sum [.str "plus", a, b] h = .ok (Res.f "kind").l h := by
  have e1 : m_check_kinds [.lst [a, b], .int 0] h = fal "kind" h := by
    rw [chk2 ha hb]
    by_cases h1 : kd a = 0 <;> by_cases h2 : kd b = 0 <;> simp [h1, h2] at hc ⊢
  refine ⟨?_, ?_⟩
  · show (b_summed (startD 4 [.str "plus", a, b]) h).out = _
    unfold b_summed
    rw [seqS_exc (x := ⟨"Fallen", [("word", .str "kind")]⟩) (h1 := h)]
    · rfl
    · exact Eq.trans (b := m_check_kinds [.lst [a, b], .int 0] h) (by kernel_rfl) e1
  · have q : eqD true (.str "plus") (.str "half") h = .ok (.bl true) h := by kernel_rfl
    show (b__law_sum (startD 4 [.str "plus", a, b]) h).out = _
    unfold b__law_sum
    rw [seq_ret]
    · kernel_rfl
    · by_cases h1 : kd a = 0 <;> by_cases h2 : kd b = 0 <;> simp [h1, h2] at hc <;> simp [runF, startD, SR.out, retS, seqS, ifS, setS, dropS, nopS, R.toS, R.bind, pureE, consE, callE, callF, opE, unE, negD, chE, andE, orE, notE, ifE, valT, andT, orT, notT, un1, tupE, dispE, pureL, varE, sized, raiseF, fal, Res.p, Res.l, lkind_ok ha, lkind_ok hb, eqD_int, h1, h2, q]
theorem sum_plus {i : Int} {k : Int} {h : AH} (hb : -9999 ≤ i + k ∧ i + k ≤ 9999) : m_summed [.str "plus", .int i, .int k] h = .ok (.int (i + k)) h ∧ m__law_sum [.str "plus", .int i, .int k] h = .ok (Res.w (.int (i + k))).l h := by
  have e1 : m_check_kinds [.lst [.int i, .int k], .int 0] h = .ok .non h := by kernel_rfl
  have s1 : eqD false (.str "plus") (.str "half") h = .ok (.bl false) h := by kernel_rfl
  have s2 : eqD false (.str "plus") (.str "less") h = .ok (.bl false) h := by kernel_rfl
  have s4 : eqD false (.str "plus") (.str "plus") h = .ok (.bl true) h := by kernel_rfl
  have s3 : eqD true (.str "plus") (.str "half") h = .ok (.bl true) h := by kernel_rfl
  have k1 : m__law_kind [.int i] h = .ok (.int 0) h := by kernel_rfl
  have k2 : m__law_kind [.int k] h = .ok (.int 0) h := by kernel_rfl
  constructor
  · simp [runF, startD, SR.out, retS, seqS, ifS, setS, dropS, nopS, R.toS, R.bind, pureE, consE, callE, callF, opE, unE, negD, chE, andE, orE, notE, ifE, valT, andT, orT, notT, un1, tupE, dispE, pureL, varE, sized, raiseF, fal, Res.p, Res.l, m_summed, b_summed, e1, s1, s2, s4, intD, leF, addD, subF, fdivF, hb.1, hb.2]
  · simp [runF, startD, SR.out, retS, seqS, ifS, setS, dropS, nopS, R.toS, R.bind, pureE, consE, callE, callF, opE, unE, negD, chE, andE, orE, notE, ifE, valT, andT, orT, notT, un1, tupE, dispE, pureL, varE, sized, raiseF, fal, Res.p, Res.l, m__law_sum, b__law_sum, e1, s1, s2, s3, s4, k1, k2, eqD_int, intD, leF, addD, subF, fdivF, hb.1, hb.2]
theorem sum_plus_big {i : Int} {k : Int} {h : AH} (hb : ¬ (-9999 ≤ i + k ∧ i + k ≤ 9999)) : m_summed [.str "plus", .int i, .int k] h = fal "big" h ∧ m__law_sum [.str "plus", .int i, .int k] h = .ok (Res.f "big").l h := by
  have e1 : m_check_kinds [.lst [.int i, .int k], .int 0] h = .ok .non h := by kernel_rfl
  have s1 : eqD false (.str "plus") (.str "half") h = .ok (.bl false) h := by kernel_rfl
  have s2 : eqD false (.str "plus") (.str "less") h = .ok (.bl false) h := by kernel_rfl
  have s4 : eqD false (.str "plus") (.str "plus") h = .ok (.bl true) h := by kernel_rfl
  have s3 : eqD true (.str "plus") (.str "half") h = .ok (.bl true) h := by kernel_rfl
  have k1 : m__law_kind [.int i] h = .ok (.int 0) h := by kernel_rfl
  have k2 : m__law_kind [.int k] h = .ok (.int 0) h := by kernel_rfl
  by_cases h1 : -9999 ≤ i + k <;> by_cases h2 : i + k ≤ 9999
  · exact absurd ⟨h1, h2⟩ hb
  all_goals
    constructor
    · simp [runF, startD, SR.out, retS, seqS, ifS, setS, dropS, nopS, R.toS, R.bind, pureE, consE, callE, callF, opE, unE, negD, chE, andE, orE, notE, ifE, valT, andT, orT, notT, un1, tupE, dispE, pureL, varE, sized, raiseF, fal, Res.p, Res.l, m_summed, b_summed, e1, s1, s2, s4, intD, leF, addD, subF, fdivF, h1, h2]
    · simp [runF, startD, SR.out, retS, seqS, ifS, setS, dropS, nopS, R.toS, R.bind, pureE, consE, callE, callF, opE, unE, negD, chE, andE, orE, notE, ifE, valT, andT, orT, notT, un1, tupE, dispE, pureL, varE, sized, raiseF, fal, Res.p, Res.l, m__law_sum, b__law_sum, e1, s1, s2, s3, s4, k1, k2, eqD_int, intD, leF, addD, subF, fdivF, h1, h2]
theorem ag_plus {n j k : Nat} {a b : D} (ha : Wd n a) (hb : Wd n b) : Ag (l_told_by (j + 2)) (l__law_deed (k + 1)) [.str "plus", a, b] := by
  by_cases hc : kd a = 0 ∧ kd b = 0
  · obtain ⟨h1, h2⟩ := hc
    obtain ⟨i, rfl, _⟩ := kd0 ha h1
    obtain ⟨k', rfl, _⟩ := kd0 hb h2
    by_cases hz : -9999 ≤ i + k' ∧ i + k' ≤ 9999
    · exact ⟨.w (.int (i + k')), Py.int, nopP fun h => by rw [told_eq mk_plus, made_plus]; exact (sum_plus hz).1, nopL fun h => by rw [ldeed_plus]; exact (sum_plus hz).2⟩
    · exact ⟨.f "big", ok_big, nopP fun h => by rw [told_eq mk_plus, made_plus]; exact (sum_plus_big hz).1, nopL fun h => by rw [ldeed_plus]; exact (sum_plus_big hz).2⟩
  · exact ⟨.f "kind", ok_kind, nopP fun h => by rw [told_eq mk_plus, made_plus]; exact (sum_bad_plus ha hb hc).1, nopL fun h => by rw [ldeed_plus]; exact (sum_bad_plus ha hb hc).2⟩
theorem sum_bad_minus {n : Nat} {a b : D} {h : AH} (ha : Wd n a) (hb : Wd n b) (hc : ¬ (kd a = 0 ∧ kd b = 0)) : m_summed [.str "minus", a, b] h = fal "kind" h ∧ m__law_sum [.str "minus", a, b] h = .ok (Res.f "kind").l h := by
  have e1 : m_check_kinds [.lst [a, b], .int 0] h = fal "kind" h := by
    rw [chk2 ha hb]
    by_cases h1 : kd a = 0 <;> by_cases h2 : kd b = 0 <;> simp [h1, h2] at hc ⊢
  refine ⟨?_, ?_⟩
  · show (b_summed (startD 4 [.str "minus", a, b]) h).out = _
    unfold b_summed
    rw [seqS_exc (x := ⟨"Fallen", [("word", .str "kind")]⟩) (h1 := h)]
    · rfl
    · exact Eq.trans (b := m_check_kinds [.lst [a, b], .int 0] h) (by kernel_rfl) e1
  · have q : eqD true (.str "minus") (.str "half") h = .ok (.bl true) h := by kernel_rfl
    show (b__law_sum (startD 4 [.str "minus", a, b]) h).out = _
    unfold b__law_sum
    rw [seq_ret]
    · kernel_rfl
    · by_cases h1 : kd a = 0 <;> by_cases h2 : kd b = 0 <;> simp [h1, h2] at hc <;> simp [runF, startD, SR.out, retS, seqS, ifS, setS, dropS, nopS, R.toS, R.bind, pureE, consE, callE, callF, opE, unE, negD, chE, andE, orE, notE, ifE, valT, andT, orT, notT, un1, tupE, dispE, pureL, varE, sized, raiseF, fal, Res.p, Res.l, lkind_ok ha, lkind_ok hb, eqD_int, h1, h2, q]
theorem sum_minus {i : Int} {k : Int} {h : AH} (hb : -9999 ≤ i - k ∧ i - k ≤ 9999) : m_summed [.str "minus", .int i, .int k] h = .ok (.int (i - k)) h ∧ m__law_sum [.str "minus", .int i, .int k] h = .ok (Res.w (.int (i - k))).l h := by
  have e1 : m_check_kinds [.lst [.int i, .int k], .int 0] h = .ok .non h := by kernel_rfl
  have s1 : eqD false (.str "minus") (.str "half") h = .ok (.bl false) h := by kernel_rfl
  have s2 : eqD false (.str "minus") (.str "less") h = .ok (.bl false) h := by kernel_rfl
  have s4 : eqD false (.str "minus") (.str "plus") h = .ok (.bl false) h := by kernel_rfl
  have s3 : eqD true (.str "minus") (.str "half") h = .ok (.bl true) h := by kernel_rfl
  have k1 : m__law_kind [.int i] h = .ok (.int 0) h := by kernel_rfl
  have k2 : m__law_kind [.int k] h = .ok (.int 0) h := by kernel_rfl
  constructor
  · simp [runF, startD, SR.out, retS, seqS, ifS, setS, dropS, nopS, R.toS, R.bind, pureE, consE, callE, callF, opE, unE, negD, chE, andE, orE, notE, ifE, valT, andT, orT, notT, un1, tupE, dispE, pureL, varE, sized, raiseF, fal, Res.p, Res.l, m_summed, b_summed, e1, s1, s2, s4, intD, leF, addD, subF, fdivF, hb.1, hb.2]
  · simp [runF, startD, SR.out, retS, seqS, ifS, setS, dropS, nopS, R.toS, R.bind, pureE, consE, callE, callF, opE, unE, negD, chE, andE, orE, notE, ifE, valT, andT, orT, notT, un1, tupE, dispE, pureL, varE, sized, raiseF, fal, Res.p, Res.l, m__law_sum, b__law_sum, e1, s1, s2, s3, s4, k1, k2, eqD_int, intD, leF, addD, subF, fdivF, hb.1, hb.2]
theorem sum_minus_big {i : Int} {k : Int} {h : AH} (hb : ¬ (-9999 ≤ i - k ∧ i - k ≤ 9999)) : m_summed [.str "minus", .int i, .int k] h = fal "big" h ∧ m__law_sum [.str "minus", .int i, .int k] h = .ok (Res.f "big").l h := by
  have e1 : m_check_kinds [.lst [.int i, .int k], .int 0] h = .ok .non h := by kernel_rfl
  have s1 : eqD false (.str "minus") (.str "half") h = .ok (.bl false) h := by kernel_rfl
  have s2 : eqD false (.str "minus") (.str "less") h = .ok (.bl false) h := by kernel_rfl
  have s4 : eqD false (.str "minus") (.str "plus") h = .ok (.bl false) h := by kernel_rfl
  have s3 : eqD true (.str "minus") (.str "half") h = .ok (.bl true) h := by kernel_rfl
  have k1 : m__law_kind [.int i] h = .ok (.int 0) h := by kernel_rfl
  have k2 : m__law_kind [.int k] h = .ok (.int 0) h := by kernel_rfl
  by_cases h1 : -9999 ≤ i - k <;> by_cases h2 : i - k ≤ 9999
  · exact absurd ⟨h1, h2⟩ hb
  all_goals
    constructor
    · simp [runF, startD, SR.out, retS, seqS, ifS, setS, dropS, nopS, R.toS, R.bind, pureE, consE, callE, callF, opE, unE, negD, chE, andE, orE, notE, ifE, valT, andT, orT, notT, un1, tupE, dispE, pureL, varE, sized, raiseF, fal, Res.p, Res.l, m_summed, b_summed, e1, s1, s2, s4, intD, leF, addD, subF, fdivF, h1, h2]
    · simp [runF, startD, SR.out, retS, seqS, ifS, setS, dropS, nopS, R.toS, R.bind, pureE, consE, callE, callF, opE, unE, negD, chE, andE, orE, notE, ifE, valT, andT, orT, notT, un1, tupE, dispE, pureL, varE, sized, raiseF, fal, Res.p, Res.l, m__law_sum, b__law_sum, e1, s1, s2, s3, s4, k1, k2, eqD_int, intD, leF, addD, subF, fdivF, h1, h2]
theorem ag_minus {n j k : Nat} {a b : D} (ha : Wd n a) (hb : Wd n b) : Ag (l_told_by (j + 2)) (l__law_deed (k + 1)) [.str "minus", a, b] := by
  by_cases hc : kd a = 0 ∧ kd b = 0
  · obtain ⟨h1, h2⟩ := hc
    obtain ⟨i, rfl, _⟩ := kd0 ha h1
    obtain ⟨k', rfl, _⟩ := kd0 hb h2
    by_cases hz : -9999 ≤ i - k' ∧ i - k' ≤ 9999
    · exact ⟨.w (.int (i - k')), Py.int, nopP fun h => by rw [told_eq mk_minus, made_minus]; exact (sum_minus hz).1, nopL fun h => by rw [ldeed_minus]; exact (sum_minus hz).2⟩
    · exact ⟨.f "big", ok_big, nopP fun h => by rw [told_eq mk_minus, made_minus]; exact (sum_minus_big hz).1, nopL fun h => by rw [ldeed_minus]; exact (sum_minus_big hz).2⟩
  · exact ⟨.f "kind", ok_kind, nopP fun h => by rw [told_eq mk_minus, made_minus]; exact (sum_bad_minus ha hb hc).1, nopL fun h => by rw [ldeed_minus]; exact (sum_bad_minus ha hb hc).2⟩
theorem sum_bad_half {n : Nat} {a b : D} {h : AH} (ha : Wd n a) (hb : Wd n b) (hc : ¬ (kd a = 0)) : m_summed [.str "half", a, b] h = fal "kind" h ∧ m__law_sum [.str "half", a, b] h = .ok (Res.f "kind").l h := by
  have e1 : m_check_kinds [.lst [a], .int 0] h = fal "kind" h := by
    rw [chk1 ha]
    by_cases h1 : kd a = 0 <;> by_cases h2 : kd b = 0 <;> simp [h1, h2] at hc ⊢
  refine ⟨?_, ?_⟩
  · show (b_summed (startD 4 [.str "half", a, b]) h).out = _
    unfold b_summed
    rw [seqS_exc (x := ⟨"Fallen", [("word", .str "kind")]⟩) (h1 := h)]
    · rfl
    · exact Eq.trans (b := m_check_kinds [.lst [a], .int 0] h) (by kernel_rfl) e1
  · have q : eqD true (.str "half") (.str "half") h = .ok (.bl false) h := by kernel_rfl
    show (b__law_sum (startD 4 [.str "half", a, b]) h).out = _
    unfold b__law_sum
    rw [seq_ret]
    · kernel_rfl
    · by_cases h1 : kd a = 0 <;> by_cases h2 : kd b = 0 <;> simp [h1, h2] at hc <;> simp [runF, startD, SR.out, retS, seqS, ifS, setS, dropS, nopS, R.toS, R.bind, pureE, consE, callE, callF, opE, unE, negD, chE, andE, orE, notE, ifE, valT, andT, orT, notT, un1, tupE, dispE, pureL, varE, sized, raiseF, fal, Res.p, Res.l, lkind_ok ha, lkind_ok hb, eqD_int, h1, h2, q]
theorem sum_half {i : Int} {b : D} {h : AH} (hb : -9999 ≤ i / 2 ∧ i / 2 ≤ 9999) : m_summed [.str "half", .int i, b] h = .ok (.int (i / 2)) h ∧ m__law_sum [.str "half", .int i, b] h = .ok (Res.w (.int (i / 2))).l h := by
  have e1 : m_check_kinds [.lst [.int i], .int 0] h = .ok .non h := by kernel_rfl
  have s1 : eqD false (.str "half") (.str "half") h = .ok (.bl true) h := by kernel_rfl
  have s2 : eqD false (.str "half") (.str "less") h = .ok (.bl false) h := by kernel_rfl
  have s4 : eqD false (.str "half") (.str "plus") h = .ok (.bl false) h := by kernel_rfl
  have s3 : eqD true (.str "half") (.str "half") h = .ok (.bl false) h := by kernel_rfl
  have k1 : m__law_kind [.int i] h = .ok (.int 0) h := by kernel_rfl
  constructor
  · simp [runF, startD, SR.out, retS, seqS, ifS, setS, dropS, nopS, R.toS, R.bind, pureE, consE, callE, callF, opE, unE, negD, chE, andE, orE, notE, ifE, valT, andT, orT, notT, un1, tupE, dispE, pureL, varE, sized, raiseF, fal, Res.p, Res.l, m_summed, b_summed, e1, s1, s2, s4, intD, leF, addD, subF, fdivF, hb.1, hb.2]
  · simp [runF, startD, SR.out, retS, seqS, ifS, setS, dropS, nopS, R.toS, R.bind, pureE, consE, callE, callF, opE, unE, negD, chE, andE, orE, notE, ifE, valT, andT, orT, notT, un1, tupE, dispE, pureL, varE, sized, raiseF, fal, Res.p, Res.l, m__law_sum, b__law_sum, e1, s1, s2, s3, s4, k1, eqD_int, intD, leF, addD, subF, fdivF, hb.1, hb.2]
theorem sum_half_big {i : Int} {b : D} {h : AH} (hb : ¬ (-9999 ≤ i / 2 ∧ i / 2 ≤ 9999)) : m_summed [.str "half", .int i, b] h = fal "big" h ∧ m__law_sum [.str "half", .int i, b] h = .ok (Res.f "big").l h := by
  have e1 : m_check_kinds [.lst [.int i], .int 0] h = .ok .non h := by kernel_rfl
  have s1 : eqD false (.str "half") (.str "half") h = .ok (.bl true) h := by kernel_rfl
  have s2 : eqD false (.str "half") (.str "less") h = .ok (.bl false) h := by kernel_rfl
  have s4 : eqD false (.str "half") (.str "plus") h = .ok (.bl false) h := by kernel_rfl
  have s3 : eqD true (.str "half") (.str "half") h = .ok (.bl false) h := by kernel_rfl
  have k1 : m__law_kind [.int i] h = .ok (.int 0) h := by kernel_rfl
  by_cases h1 : -9999 ≤ i / 2 <;> by_cases h2 : i / 2 ≤ 9999
  · exact absurd ⟨h1, h2⟩ hb
  all_goals
    constructor
    · simp [runF, startD, SR.out, retS, seqS, ifS, setS, dropS, nopS, R.toS, R.bind, pureE, consE, callE, callF, opE, unE, negD, chE, andE, orE, notE, ifE, valT, andT, orT, notT, un1, tupE, dispE, pureL, varE, sized, raiseF, fal, Res.p, Res.l, m_summed, b_summed, e1, s1, s2, s4, intD, leF, addD, subF, fdivF, h1, h2]
    · simp [runF, startD, SR.out, retS, seqS, ifS, setS, dropS, nopS, R.toS, R.bind, pureE, consE, callE, callF, opE, unE, negD, chE, andE, orE, notE, ifE, valT, andT, orT, notT, un1, tupE, dispE, pureL, varE, sized, raiseF, fal, Res.p, Res.l, m__law_sum, b__law_sum, e1, s1, s2, s3, s4, k1, eqD_int, intD, leF, addD, subF, fdivF, h1, h2]
theorem ag_half {n j k : Nat} {a b : D} (ha : Wd n a) (hb : Wd n b) : Ag (l_told_by (j + 2)) (l__law_deed (k + 1)) [.str "half", a, b] := by
  by_cases hc : kd a = 0
  · obtain ⟨i, rfl, _⟩ := kd0 ha hc
    by_cases hz : -9999 ≤ i / 2 ∧ i / 2 ≤ 9999
    · exact ⟨.w (.int (i / 2)), Py.int, nopP fun h => by rw [told_eq mk_half, made_half]; exact (sum_half hz).1, nopL fun h => by rw [ldeed_half]; exact (sum_half hz).2⟩
    · exact ⟨.f "big", ok_big, nopP fun h => by rw [told_eq mk_half, made_half]; exact (sum_half_big hz).1, nopL fun h => by rw [ldeed_half]; exact (sum_half_big hz).2⟩
  · exact ⟨.f "kind", ok_kind, nopP fun h => by rw [told_eq mk_half, made_half]; exact (sum_bad_half ha hb hc).1, nopL fun h => by rw [ldeed_half]; exact (sum_bad_half ha hb hc).2⟩
theorem sum_bad_less {n : Nat} {a b : D} {h : AH} (ha : Wd n a) (hb : Wd n b) (hc : ¬ (kd a = 0 ∧ kd b = 0)) : m_summed [.str "less", a, b] h = fal "kind" h ∧ m__law_sum [.str "less", a, b] h = .ok (Res.f "kind").l h := by
  have e1 : m_check_kinds [.lst [a, b], .int 0] h = fal "kind" h := by
    rw [chk2 ha hb]
    by_cases h1 : kd a = 0 <;> by_cases h2 : kd b = 0 <;> simp [h1, h2] at hc ⊢
  refine ⟨?_, ?_⟩
  · show (b_summed (startD 4 [.str "less", a, b]) h).out = _
    unfold b_summed
    rw [seqS_exc (x := ⟨"Fallen", [("word", .str "kind")]⟩) (h1 := h)]
    · rfl
    · exact Eq.trans (b := m_check_kinds [.lst [a, b], .int 0] h) (by kernel_rfl) e1
  · have q : eqD true (.str "less") (.str "half") h = .ok (.bl true) h := by kernel_rfl
    show (b__law_sum (startD 4 [.str "less", a, b]) h).out = _
    unfold b__law_sum
    rw [seq_ret]
    · kernel_rfl
    · by_cases h1 : kd a = 0 <;> by_cases h2 : kd b = 0 <;> simp [h1, h2] at hc <;> simp [runF, startD, SR.out, retS, seqS, ifS, setS, dropS, nopS, R.toS, R.bind, pureE, consE, callE, callF, opE, unE, negD, chE, andE, orE, notE, ifE, valT, andT, orT, notT, un1, tupE, dispE, pureL, varE, sized, raiseF, fal, Res.p, Res.l, lkind_ok ha, lkind_ok hb, eqD_int, h1, h2, q]
theorem sum_less {i k : Int} {h : AH} : m_summed [.str "less", .int i, .int k] h = .ok (.int (if i < k then 1 else 0)) h ∧ m__law_sum [.str "less", .int i, .int k] h = .ok (Res.w (.int (if i < k then 1 else 0))).l h := by
  have e1 : m_check_kinds [.lst [.int i, .int k], .int 0] h = .ok .non h := by kernel_rfl
  have s1 : eqD false (.str "less") (.str "half") h = .ok (.bl false) h := by kernel_rfl
  have s2 : eqD false (.str "less") (.str "less") h = .ok (.bl true) h := by kernel_rfl
  have s3 : eqD true (.str "less") (.str "half") h = .ok (.bl true) h := by kernel_rfl
  have k1 : m__law_kind [.int i] h = .ok (.int 0) h := by kernel_rfl
  have k2 : m__law_kind [.int k] h = .ok (.int 0) h := by kernel_rfl
  by_cases hc : i < k
  · constructor
    · simp [runF, startD, SR.out, retS, seqS, ifS, setS, dropS, nopS, R.toS, R.bind, pureE, consE, callE, callF, opE, unE, negD, chE, andE, orE, notE, ifE, valT, andT, orT, notT, un1, tupE, dispE, pureL, varE, sized, raiseF, fal, Res.p, Res.l, m_summed, b_summed, e1, s1, s2, intD, ltF, hc, intC]
    · simp [runF, startD, SR.out, retS, seqS, ifS, setS, dropS, nopS, R.toS, R.bind, pureE, consE, callE, callF, opE, unE, negD, chE, andE, orE, notE, ifE, valT, andT, orT, notT, un1, tupE, dispE, pureL, varE, sized, raiseF, fal, Res.p, Res.l, m__law_sum, b__law_sum, e1, s1, s2, s3, k1, k2, eqD_int, intD, ltF, hc, intC]
  · constructor
    · simp [runF, startD, SR.out, retS, seqS, ifS, setS, dropS, nopS, R.toS, R.bind, pureE, consE, callE, callF, opE, unE, negD, chE, andE, orE, notE, ifE, valT, andT, orT, notT, un1, tupE, dispE, pureL, varE, sized, raiseF, fal, Res.p, Res.l, m_summed, b_summed, e1, s1, s2, intD, ltF, hc, intC]
    · simp [runF, startD, SR.out, retS, seqS, ifS, setS, dropS, nopS, R.toS, R.bind, pureE, consE, callE, callF, opE, unE, negD, chE, andE, orE, notE, ifE, valT, andT, orT, notT, un1, tupE, dispE, pureL, varE, sized, raiseF, fal, Res.p, Res.l, m__law_sum, b__law_sum, e1, s1, s2, s3, k1, k2, eqD_int, intD, ltF, hc, intC]
theorem ag_less {n j k : Nat} {a b : D} (ha : Wd n a) (hb : Wd n b) : Ag (l_told_by (j + 2)) (l__law_deed (k + 1)) [.str "less", a, b] := by
  by_cases hc : kd a = 0 ∧ kd b = 0
  · obtain ⟨h1, h2⟩ := hc
    obtain ⟨i, rfl, _⟩ := kd0 ha h1
    obtain ⟨k', rfl, _⟩ := kd0 hb h2
    exact ⟨.w (.int (if i < k' then 1 else 0)), Py.int, nopP fun h => by rw [told_eq mk_less, made_less]; exact sum_less.1, nopL fun h => by rw [ldeed_less]; exact sum_less.2⟩
  · exact ⟨.f "kind", ok_kind, nopP fun h => by rw [told_eq mk_less, made_less]; exact (sum_bad_less ha hb hc).1, nopL fun h => by rw [ldeed_less]; exact (sum_bad_less ha hb hc).2⟩
theorem dctOf_new {h : AH} {kvs : List (L2.Key × D)} : dctOf (h ++ [.dct kvs]) (.ref h.length) = some kvs := by simp [dctOf]
theorem ldict {n k : Nat} {a b : D} {h : AH} {x : Str} {d : D} (ha : Wd n a) (c : b__law_deed (l__law_deed k) (startD 4 [.str x, a, b]) h = retS (tupE (consE (pureE (.str "worth")) (consE (dgetE (dispD [((pureE (.str "pair")), (tupE (consE (varE 1) (consE (varE 2) (pureE []))))), ((pureE (.str "copy")), (varE 1)), ((pureE (.str "kind")), (callF m__law_kind (consE (varE 1) (pureE []))))]) (varE 0)) (pureE [])))) (startD 4 [.str x, a, b]) h)
    (g1 : getD' [(.inr "pair", .tup [a, b]), (.inr "copy", a), (.inr "kind", .int (kd a))] (.inr x) = some d) : ∃ g, l__law_deed (k + 1) [.str x, a, b] h = .ok (Res.w d).l (h ++ g) := by
  refine ⟨[.dct [(.inr "pair", .tup [a, b]), (.inr "copy", a), (.inr "kind", .int (kd a))]], ?_⟩
  have q := lkind_ok (h := h) ha
  have m1 : mergeD [] [(.inr "pair", .tup [a, b]), (.inr "copy", a), (.inr "kind", .int (kd a))] = [(.inr "pair", .tup [a, b]), (.inr "copy", a), (.inr "kind", .int (kd a))] := by kernel_rfl
  show (b__law_deed (l__law_deed k) (startD 4 [.str x, a, b]) h).out = _
  rw [c, last_ret]
  simp [runF, startD, SR.out, retS, seqS, ifS, setS, dropS, nopS, R.toS, R.bind, pureE, consE, callE, callF, opE, unE, negD, chE, andE, orE, notE, ifE, valT, andT, orT, notT, un1, tupE, dispE, pureL, varE, sized, raiseF, fal, Res.p, Res.l, dgetE, dispD, pairsE, getR, keyOf, q, m1, dctOf_new, g1]
theorem ag_pair {n j k : Nat} {a b : D} (ha : Wd n a) (hb : Wd n b) (hn : n ≤ 30) : Ag (l_told_by (j + 2)) (l__law_deed (k + 1)) [.str "pair", a, b] := by
  refine ⟨.w (.tup [a, b]), Py.mono (Py.tup (m := n) (l := [a, b]) fun e he => ?_) (by omega), nopP fun h => by rw [told_eq mk_pair, made_pair]; rfl, fun h => ldict ha ?_ (by kernel_rfl)⟩
  · simp at he
    rcases he with rfl | rfl
    · exact ha.Py
    · exact hb.Py
  · unfold b__law_deed
    rw [seq_skip (by kernel_rfl), seq_skip (by kernel_rfl), seq_skip (by kernel_rfl), seq_skip (by kernel_rfl), seq_skip (by kernel_rfl), seq_skip (by kernel_rfl)]
theorem ag_copy {n j k : Nat} {a b : D} (ha : Wd n a) (hb : Wd n b) (hn : n ≤ 30) : Ag (l_told_by (j + 2)) (l__law_deed (k + 1)) [.str "copy", a, b] := by
  refine ⟨.w a, Py.mono ha.Py (by omega), nopP fun h => by rw [told_eq mk_copy, made_copy]; rfl, fun h => ldict ha ?_ (by kernel_rfl)⟩
  unfold b__law_deed
  rw [seq_skip (by kernel_rfl), seq_skip (by kernel_rfl), seq_skip (by kernel_rfl), seq_skip (by kernel_rfl), seq_skip (by kernel_rfl), seq_skip (by kernel_rfl)]
theorem ag_kind {n j k : Nat} {a b : D} (ha : Wd n a) (hb : Wd n b) (hn : n ≤ 30) : Ag (l_told_by (j + 2)) (l__law_deed (k + 1)) [.str "kind", a, b] := by
  refine ⟨.w (.int (kd a)), Py.int, nopP fun h => by rw [told_eq mk_kind, made_kind, kind_ok ha]; rfl, fun h => ldict ha ?_ (by kernel_rfl)⟩
  unfold b__law_deed
  rw [seq_skip (by kernel_rfl), seq_skip (by kernel_rfl), seq_skip (by kernel_rfl), seq_skip (by kernel_rfl), seq_skip (by kernel_rfl), seq_skip (by kernel_rfl)]
theorem ag_same {n j k : Nat} {a b : D} (ha : Wd n a) (hb : Wd n b) (hn : n ≤ 30) : Ag (l_told_by (j + 2)) (l__law_deed (k + 1)) [.str "same", a, b] := by
  refine ⟨.w (.int (if eqP a b then 1 else 0)), Py.int, nopP fun h => ?_, nopL fun h => ?_⟩
  · rw [told_eq mk_same, made_same, eqD_ok ha hb (by omega)]
    cases eqP a b <;> rfl
  · show (b__law_deed (l__law_deed k) (startD 4 [.str "same", a, b]) h).out = _
    unfold b__law_deed
    rw [seq_skip (by kernel_rfl), seq_skip (by kernel_rfl), seq_skip (by kernel_rfl), seq_skip (by kernel_rfl), seq_skip (by kernel_rfl), seq_ret (by kernel_rfl)]
    have q := eqD_ok (b := false) (h := h) ha hb (by omega)
    cases e : eqP a b <;> simp [runF, startD, SR.out, retS, seqS, ifS, setS, dropS, nopS, R.toS, R.bind, pureE, consE, callE, callF, opE, unE, negD, chE, andE, orE, notE, ifE, valT, andT, orT, notT, un1, tupE, dispE, pureL, varE, sized, raiseF, fal, Res.p, Res.l, q, e]
end RF

set_option maxRecDepth 100000
set_option maxHeartbeats 1000000
namespace RF
open PySem PySem.Spec
theorem at_in {l : List D} {i : Int} (h0 : 0 ≤ i) (h1 : i < l.length) : ∃ d, L2.atI l i = some d ∧ d ∈ l := by
  have hl : i.toNat < l.length := by omega
  refine ⟨l[i.toNat], ?_, List.getElem_mem hl⟩
  unfold L2.atI L2.ixN
  rw [if_pos h0, if_pos h1]
  exact List.getElem?_eq_getElem hl
theorem cut_len {l : List D} {lo hi : Option Int} : (cut l lo hi).length ≤ l.length := by
  unfold cut
  rw [List.length_take, List.length_drop]
  omega
theorem cut_mem {l : List D} {lo hi : Option Int} {d : D} (h : d ∈ cut l lo hi) : d ∈ l := List.mem_of_mem_drop (List.mem_of_mem_take h)
/-! ### many, at -/
theorem many_bad {n : Nat} {a b : D} {h : AH} (ha : Wd n a) (hc : kd a ≠ 2) : m_listed [.str "many", a, b] h = fal "kind" h ∧ m__law_one [.str "many", a, b] h = .ok (Res.f "kind").l h := by
  have e1 : m_check_kinds [.lst [a], .int 2] h = fal "kind" h := by rw [chk1 ha, if_pos hc]
  have q0 : inD false (.str "many") (.tup [.str "union", .str "counts"]) h = .ok (.bl false) h := by kernel_rfl
  constructor
  · simp [runF, startD, SR.out, retS, seqS, ifS, setS, dropS, nopS, R.toS, R.bind, pureE, consE, callE, callF, opE, unE, negD, chE, andE, orE, notE, ifE, valT, andT, orT, notT, un1, tupE, dispE, pureL, varE, sized, raiseF, fal, Res.p, Res.l, m_listed, b_listed, e1, q0]
  · simp [runF, startD, SR.out, retS, seqS, ifS, setS, dropS, nopS, R.toS, R.bind, pureE, consE, callE, callF, opE, unE, negD, chE, andE, orE, notE, ifE, valT, andT, orT, notT, un1, tupE, dispE, pureL, varE, sized, raiseF, fal, Res.p, Res.l, m__law_one, b__law_one, lkind_ok ha, eqD_int, hc]
theorem many_ok {l : List D} {b : D} {h : AH} : m_listed [.str "many", .tup l, b] h = .ok (.int l.length) h ∧ m__law_one [.str "many", .tup l, b] h = .ok (Res.w (.int l.length)).l h := by
  have e1 : m_check_kinds [.lst [.tup l], .int 2] h = .ok .non h := by kernel_rfl
  have q0 : inD false (.str "many") (.tup [.str "union", .str "counts"]) h = .ok (.bl false) h := by kernel_rfl
  have q1 : eqD false (.str "many") (.str "many") h = .ok (.bl true) h := by kernel_rfl
  have q2 : eqD false (.str "many") (.str "at") h = .ok (.bl false) h := by kernel_rfl
  have k1 : m__law_kind [.tup l] h = .ok (.int 2) h := by kernel_rfl
  constructor
  · simp [runF, startD, SR.out, retS, seqS, ifS, setS, dropS, nopS, R.toS, R.bind, pureE, consE, callE, callF, opE, unE, negD, chE, andE, orE, notE, ifE, valT, andT, orT, notT, un1, tupE, dispE, pureL, varE, sized, raiseF, fal, Res.p, Res.l, m_listed, b_listed, e1, q0, q1, lenD]
  · simp [runF, startD, SR.out, retS, seqS, ifS, setS, dropS, nopS, R.toS, R.bind, pureE, consE, callE, callF, opE, unE, negD, chE, andE, orE, notE, ifE, valT, andT, orT, notT, un1, tupE, dispE, pureL, varE, sized, raiseF, fal, Res.p, Res.l, m__law_one, b__law_one, k1, eqD_int, q1, q2, lenD]
theorem ag_many {n j k : Nat} {a b : D} (ha : Wd n a) (hb : Wd n b) : Ag (l_told_by (j + 2)) (l__law_deed (k + 1)) [.str "many", a, b] := by
  by_cases hc : kd a = 2
  · obtain ⟨m, l, _, rfl, _⟩ := kd2 ha hc
    exact ⟨.w (.int l.length), Py.int, nopP fun h => by rw [told_eq mk_many, made_many]; exact many_ok.1, nopL fun h => by rw [ldeed_many]; exact many_ok.2⟩
  · exact ⟨.f "kind", ok_kind, nopP fun h => by rw [told_eq mk_many, made_many]; exact (many_bad ha hc).1, nopL fun h => by rw [ldeed_many]; exact (many_bad ha hc).2⟩
theorem member_ok {l : List D} {i : Int} {d : D} {h : AH} (h0 : 0 ≤ i) (h1 : i < l.length) (e : L2.atI l i = some d) : m_member [.tup l, .int i] h = .ok d h := by
  simp [runF, startD, SR.out, retS, seqS, ifS, setS, dropS, nopS, R.toS, R.bind, pureE, consE, callE, callF, opE, unE, negD, chE, andE, orE, notE, ifE, valT, andT, orT, notT, un1, tupE, dispE, pureL, varE, sized, raiseF, fal, Res.p, Res.l, m_member, b_member, intD, leF, ltF, lenD, h0, h1, ixD, getO, e]
theorem member_out {l : List D} {i : Int} {h : AH} (hc : ¬ (0 ≤ i ∧ i < l.length)) : m_member [.tup l, .int i] h = fal "out" h := by
  by_cases h0 : 0 ≤ i
  · have h1 : ¬ i < l.length := fun z => hc ⟨h0, z⟩
    simp [runF, startD, SR.out, retS, seqS, ifS, setS, dropS, nopS, R.toS, R.bind, pureE, consE, callE, callF, opE, unE, negD, chE, andE, orE, notE, ifE, valT, andT, orT, notT, un1, tupE, dispE, pureL, varE, sized, raiseF, fal, Res.p, Res.l, m_member, b_member, intD, leF, ltF, lenD, h0, h1]
  · simp [runF, startD, SR.out, retS, seqS, ifS, setS, dropS, nopS, R.toS, R.bind, pureE, consE, callE, callF, opE, unE, negD, chE, andE, orE, notE, ifE, valT, andT, orT, notT, un1, tupE, dispE, pureL, varE, sized, raiseF, fal, Res.p, Res.l, m_member, b_member, intD, leF, ltF, lenD, h0]
theorem at_bad {n : Nat} {a b : D} {h : AH} (ha : Wd n a) (hb : Wd n b) (hc : ¬ (kd a = 2 ∧ kd b = 0)) : m_listed [.str "at", a, b] h = fal "kind" h ∧ m__law_one [.str "at", a, b] h = .ok (Res.f "kind").l h := by
  have q0 : inD false (.str "at") (.tup [.str "union", .str "counts"]) h = .ok (.bl false) h := by kernel_rfl
  have q1 : eqD false (.str "at") (.str "many") h = .ok (.bl false) h := by kernel_rfl
  have q2 : eqD false (.str "at") (.str "at") h = .ok (.bl true) h := by kernel_rfl
  by_cases h1 : kd a = 2
  · have h2 : kd b ≠ 0 := fun z => hc ⟨h1, z⟩
    have e1 : m_check_kinds [.lst [a], .int 2] h = .ok .non h := by rw [chk1 ha, if_neg (by simpa using h1)]
    have e2 : m_check_kinds [.lst [b], .int 0] h = fal "kind" h := by rw [chk1 hb, if_pos h2]
    constructor
    · simp [runF, startD, SR.out, retS, seqS, ifS, setS, dropS, nopS, R.toS, R.bind, pureE, consE, callE, callF, opE, unE, negD, chE, andE, orE, notE, ifE, valT, andT, orT, notT, un1, tupE, dispE, pureL, varE, sized, raiseF, fal, Res.p, Res.l, m_listed, b_listed, e1, e2, q0, q1, q2]
    · simp [runF, startD, SR.out, retS, seqS, ifS, setS, dropS, nopS, R.toS, R.bind, pureE, consE, callE, callF, opE, unE, negD, chE, andE, orE, notE, ifE, valT, andT, orT, notT, un1, tupE, dispE, pureL, varE, sized, raiseF, fal, Res.p, Res.l, m__law_one, b__law_one, lkind_ok ha, lkind_ok hb, eqD_int, h1, h2, q2]
  · have e1 : m_check_kinds [.lst [a], .int 2] h = fal "kind" h := by rw [chk1 ha, if_pos h1]
    constructor
    · simp [runF, startD, SR.out, retS, seqS, ifS, setS, dropS, nopS, R.toS, R.bind, pureE, consE, callE, callF, opE, unE, negD, chE, andE, orE, notE, ifE, valT, andT, orT, notT, un1, tupE, dispE, pureL, varE, sized, raiseF, fal, Res.p, Res.l, m_listed, b_listed, e1, q0, q1, q2]
    · simp [runF, startD, SR.out, retS, seqS, ifS, setS, dropS, nopS, R.toS, R.bind, pureE, consE, callE, callF, opE, unE, negD, chE, andE, orE, notE, ifE, valT, andT, orT, notT, un1, tupE, dispE, pureL, varE, sized, raiseF, fal, Res.p, Res.l, m__law_one, b__law_one, lkind_ok ha, eqD_int, h1]
theorem at_pre {l : List D} {i : Int} {h : AH} : m_listed [.str "at", .tup l, .int i] h = m_member [.tup l, .int i] h := by
  have e1 : m_check_kinds [.lst [.tup l], .int 2] h = .ok .non h := by kernel_rfl
  have e2 : m_check_kinds [.lst [.int i], .int 0] h = .ok .non h := by kernel_rfl
  have q0 : inD false (.str "at") (.tup [.str "union", .str "counts"]) h = .ok (.bl false) h := by kernel_rfl
  have q1 : eqD false (.str "at") (.str "many") h = .ok (.bl false) h := by kernel_rfl
  have q2 : eqD false (.str "at") (.str "at") h = .ok (.bl true) h := by kernel_rfl
  cases e : m_member [.tup l, .int i] h <;> simp [runF, startD, SR.out, retS, seqS, ifS, setS, dropS, nopS, R.toS, R.bind, pureE, consE, callE, callF, opE, unE, negD, chE, andE, orE, notE, ifE, valT, andT, orT, notT, un1, tupE, dispE, pureL, varE, sized, raiseF, fal, Res.p, Res.l, m_listed, b_listed, e1, e2, q0, q1, q2, e]
theorem at_ok {l : List D} {i : Int} {d : D} {h : AH} (h0 : 0 ≤ i) (h1 : i < l.length) (e : L2.atI l i = some d) : m_listed [.str "at", .tup l, .int i] h = .ok d h ∧ m__law_one [.str "at", .tup l, .int i] h = .ok (Res.w d).l h := by
  refine ⟨at_pre.trans (member_ok h0 h1 e), ?_⟩
  have q1 : eqD false (.str "at") (.str "many") h = .ok (.bl false) h := by kernel_rfl
  have q2 : eqD false (.str "at") (.str "at") h = .ok (.bl true) h := by kernel_rfl
  have q3 : eqD false (.str "at") (.str "put") h = .ok (.bl false) h := by kernel_rfl
  have k1 : m__law_kind [.tup l] h = .ok (.int 2) h := by kernel_rfl
  have k2 : m__law_kind [.int i] h = .ok (.int 0) h := by kernel_rfl
  simp [runF, startD, SR.out, retS, seqS, ifS, setS, dropS, nopS, R.toS, R.bind, pureE, consE, callE, callF, opE, unE, negD, chE, andE, orE, notE, ifE, valT, andT, orT, notT, un1, tupE, dispE, pureL, varE, sized, raiseF, fal, Res.p, Res.l, m__law_one, b__law_one, k1, k2, eqD_int, q1, q2, q3, lenD, intD, leF, ltF, h0, h1, ixD, getO, e]
theorem at_out {l : List D} {i : Int} {h : AH} (hc : ¬ (0 ≤ i ∧ i < l.length)) : m_listed [.str "at", .tup l, .int i] h = fal "out" h ∧ m__law_one [.str "at", .tup l, .int i] h = .ok (Res.f "out").l h := by
  refine ⟨at_pre.trans (member_out hc), ?_⟩
  have q1 : eqD false (.str "at") (.str "many") h = .ok (.bl false) h := by kernel_rfl
  have q2 : eqD false (.str "at") (.str "at") h = .ok (.bl true) h := by kernel_rfl
  have q3 : eqD false (.str "at") (.str "put") h = .ok (.bl false) h := by kernel_rfl
  have k1 : m__law_kind [.tup l] h = .ok (.int 2) h := by kernel_rfl
  have k2 : m__law_kind [.int i] h = .ok (.int 0) h := by kernel_rfl
  by_cases h0 : 0 ≤ i
  · have h1 : ¬ i < l.length := fun z => hc ⟨h0, z⟩
    simp [runF, startD, SR.out, retS, seqS, ifS, setS, dropS, nopS, R.toS, R.bind, pureE, consE, callE, callF, opE, unE, negD, chE, andE, orE, notE, ifE, valT, andT, orT, notT, un1, tupE, dispE, pureL, varE, sized, raiseF, fal, Res.p, Res.l, m__law_one, b__law_one, k1, k2, eqD_int, q1, q2, q3, lenD, intD, leF, ltF, h0, h1]
  · simp [runF, startD, SR.out, retS, seqS, ifS, setS, dropS, nopS, R.toS, R.bind, pureE, consE, callE, callF, opE, unE, negD, chE, andE, orE, notE, ifE, valT, andT, orT, notT, un1, tupE, dispE, pureL, varE, sized, raiseF, fal, Res.p, Res.l, m__law_one, b__law_one, k1, k2, eqD_int, q1, q2, q3, lenD, intD, leF, ltF, h0]
theorem ag_at {n j k : Nat} {a b : D} (ha : Wd n a) (hb : Wd n b) (hn : n ≤ 30) : Ag (l_told_by (j + 2)) (l__law_deed (k + 1)) [.str "at", a, b] := by
  by_cases hc : kd a = 2 ∧ kd b = 0
  · obtain ⟨h1, h2⟩ := hc
    obtain ⟨m, l, hm, rfl, _, hl⟩ := kd2 ha h1
    obtain ⟨i, rfl, _⟩ := kd0 hb h2
    by_cases hi : 0 ≤ i ∧ i < l.length
    · obtain ⟨d, e, hd⟩ := at_in hi.1 hi.2
      exact ⟨.w d, Py.mono (hl d hd).Py (by omega), nopP fun h => by rw [told_eq mk_at, made_at]; exact (at_ok hi.1 hi.2 e).1, nopL fun h => by rw [ldeed_at]; exact (at_ok hi.1 hi.2 e).2⟩
    · exact ⟨.f "out", ok_out, nopP fun h => by rw [told_eq mk_at, made_at]; exact (at_out hi).1, nopL fun h => by rw [ldeed_at]; exact (at_out hi).2⟩
  · exact ⟨.f "kind", ok_kind, nopP fun h => by rw [told_eq mk_at, made_at]; exact (at_bad ha hb hc).1, nopL fun h => by rw [ldeed_at]; exact (at_bad ha hb hc).2⟩
/-! ### put -/
theorem put_bad0 {n : Nat} {a b : D} {h : AH} (ha : Wd n a) (hb : Wd n b) (hc : ¬ (kd a = 2 ∧ kd b = 2)) : m_put_in [a, b] h = fal "kind" h ∧ m__law_one [.str "put", a, b] h = .ok (Res.f "kind").l h := by
  have q1 : eqD false (.str "put") (.str "many") h = .ok (.bl false) h := by kernel_rfl
  have q2 : eqD false (.str "put") (.str "at") h = .ok (.bl false) h := by kernel_rfl
  have q3 : eqD false (.str "put") (.str "put") h = .ok (.bl true) h := by kernel_rfl
  have e1 : m_check_kinds [.lst [a, b], .int 2] h = fal "kind" h := by
    rw [chk2 ha hb, if_pos]
    by_cases h1 : kd a = 2
    · exact .inr fun z => hc ⟨h1, z⟩
    · exact .inl h1
  constructor
  · simp [runF, startD, SR.out, retS, seqS, ifS, setS, dropS, nopS, R.toS, R.bind, pureE, consE, callE, callF, opE, unE, negD, chE, andE, orE, notE, ifE, valT, andT, orT, notT, un1, tupE, dispE, pureL, varE, sized, raiseF, fal, Res.p, Res.l, m_put_in, b_put_in, e1]
  · by_cases h1 : kd a = 2
    · have h2 : kd b ≠ 2 := fun z => hc ⟨h1, z⟩
      simp [runF, startD, SR.out, retS, seqS, ifS, setS, dropS, nopS, R.toS, R.bind, pureE, consE, callE, callF, opE, unE, negD, chE, andE, orE, notE, ifE, valT, andT, orT, notT, un1, tupE, dispE, pureL, varE, sized, raiseF, fal, Res.p, Res.l, m__law_one, b__law_one, lkind_ok ha, lkind_ok hb, eqD_int, h1, h2, q1, q2, q3]
    · simp [runF, startD, SR.out, retS, seqS, ifS, setS, dropS, nopS, R.toS, R.bind, pureE, consE, callE, callF, opE, unE, negD, chE, andE, orE, notE, ifE, valT, andT, orT, notT, un1, tupE, dispE, pureL, varE, sized, raiseF, fal, Res.p, Res.l, m__law_one, b__law_one, lkind_ok ha, eqD_int, h1]
theorem put_bad1 {n : Nat} {l m : List D} {h : AH} (hc : m.length ≠ 2) : m_put_in [.tup l, .tup m] h = fal "kind" h ∧ m__law_one [.str "put", .tup l, .tup m] h = .ok (Res.f "kind").l h := by
  have q1 : eqD false (.str "put") (.str "many") h = .ok (.bl false) h := by kernel_rfl
  have q2 : eqD false (.str "put") (.str "at") h = .ok (.bl false) h := by kernel_rfl
  have q3 : eqD false (.str "put") (.str "put") h = .ok (.bl true) h := by kernel_rfl
  have k1 : m__law_kind [.tup l] h = .ok (.int 2) h := by kernel_rfl
  have k2 : m__law_kind [.tup m] h = .ok (.int 2) h := by kernel_rfl
  have e1 : m_check_kinds [.lst [.tup l, .tup m], .int 2] h = .ok .non h := by kernel_rfl
  have hc' : ¬ ((m.length : Int) = 2) := by omega
  constructor
  · simp [runF, startD, SR.out, retS, seqS, ifS, setS, dropS, nopS, R.toS, R.bind, pureE, consE, callE, callF, opE, unE, negD, chE, andE, orE, notE, ifE, valT, andT, orT, notT, un1, tupE, dispE, pureL, varE, sized, raiseF, fal, Res.p, Res.l, m_put_in, b_put_in, e1, lenD, eqD_int, hc']
  · simp [runF, startD, SR.out, retS, seqS, ifS, setS, dropS, nopS, R.toS, R.bind, pureE, consE, callE, callF, opE, unE, negD, chE, andE, orE, notE, ifE, valT, andT, orT, notT, un1, tupE, dispE, pureL, varE, sized, raiseF, fal, Res.p, Res.l, m__law_one, b__law_one, k1, k2, eqD_int, q1, q2, q3, lenD, hc']
theorem put_bad2 {n : Nat} {l : List D} {x y : D} {h : AH} (hx : Wd n x) (hc : kd x ≠ 0) : m_put_in [.tup l, .tup [x, y]] h = fal "kind" h ∧ m__law_one [.str "put", .tup l, .tup [x, y]] h = .ok (Res.f "kind").l h := by
  have q1 : eqD false (.str "put") (.str "many") h = .ok (.bl false) h := by kernel_rfl
  have q2 : eqD false (.str "put") (.str "at") h = .ok (.bl false) h := by kernel_rfl
  have q3 : eqD false (.str "put") (.str "put") h = .ok (.bl true) h := by kernel_rfl
  have k1 : m__law_kind [.tup l] h = .ok (.int 2) h := by kernel_rfl
  have k2 : m__law_kind [.tup [x, y]] h = .ok (.int 2) h := by kernel_rfl
  have e1 : m_check_kinds [.lst [.tup l, .tup [x, y]], .int 2] h = .ok .non h := by kernel_rfl
  have a0 : L2.atI [x, y] 0 = some x := rfl
  constructor
  · simp [runF, startD, SR.out, retS, seqS, ifS, setS, dropS, nopS, R.toS, R.bind, pureE, consE, callE, callF, opE, unE, negD, chE, andE, orE, notE, ifE, valT, andT, orT, notT, un1, tupE, dispE, pureL, varE, sized, raiseF, fal, Res.p, Res.l, m_put_in, b_put_in, e1, lenD, eqD_int, ixD, getO, a0, kind_ok hx, hc]
  · simp [runF, startD, SR.out, retS, seqS, ifS, setS, dropS, nopS, R.toS, R.bind, pureE, consE, callE, callF, opE, unE, negD, chE, andE, orE, notE, ifE, valT, andT, orT, notT, un1, tupE, dispE, pureL, varE, sized, raiseF, fal, Res.p, Res.l, m__law_one, b__law_one, k1, k2, eqD_int, q1, q2, q3, lenD, ixD, getO, a0, lkind_ok hx, hc]
theorem put_out {l : List D} {i : Int} {y : D} {h : AH} (hc : ¬ (0 ≤ i ∧ i < l.length)) : m_put_in [.tup l, .tup [.int i, y]] h = fal "out" h ∧ m__law_one [.str "put", .tup l, .tup [.int i, y]] h = .ok (Res.f "out").l h := by
  have q1 : eqD false (.str "put") (.str "many") h = .ok (.bl false) h := by kernel_rfl
  have q2 : eqD false (.str "put") (.str "at") h = .ok (.bl false) h := by kernel_rfl
  have q3 : eqD false (.str "put") (.str "put") h = .ok (.bl true) h := by kernel_rfl
  have k1 : m__law_kind [.tup l] h = .ok (.int 2) h := by kernel_rfl
  have k2 : m__law_kind [.tup [.int i, y]] h = .ok (.int 2) h := by kernel_rfl
  have k3 : m__law_kind [.int i] h = .ok (.int 0) h := by kernel_rfl
  have k4 : m_kind_of [.int i] h = .ok (.int 0) h := by kernel_rfl
  have e1 : m_check_kinds [.lst [.tup l, .tup [.int i, y]], .int 2] h = .ok .non h := by kernel_rfl
  have a0 : L2.atI [.int i, y] 0 = some (.int i) := rfl
  constructor
  · simp [runF, startD, SR.out, retS, seqS, ifS, setS, dropS, nopS, R.toS, R.bind, pureE, consE, callE, callF, opE, unE, negD, chE, andE, orE, notE, ifE, valT, andT, orT, notT, un1, tupE, dispE, pureL, varE, sized, raiseF, fal, Res.p, Res.l, m_put_in, b_put_in, e1, lenD, eqD_int, ixD, getO, a0, k4, member_out hc]
  · by_cases h0 : 0 ≤ i
    · have h1 : ¬ i < l.length := fun z => hc ⟨h0, z⟩
      simp [runF, startD, SR.out, retS, seqS, ifS, setS, dropS, nopS, R.toS, R.bind, pureE, consE, callE, callF, opE, unE, negD, chE, andE, orE, notE, ifE, valT, andT, orT, notT, un1, tupE, dispE, pureL, varE, sized, raiseF, fal, Res.p, Res.l, m__law_one, b__law_one, k1, k2, k3, eqD_int, q1, q2, q3, lenD, ixD, getO, a0, intD, leF, ltF, h0, h1]
    · simp [runF, startD, SR.out, retS, seqS, ifS, setS, dropS, nopS, R.toS, R.bind, pureE, consE, callE, callF, opE, unE, negD, chE, andE, orE, notE, ifE, valT, andT, orT, notT, un1, tupE, dispE, pureL, varE, sized, raiseF, fal, Res.p, Res.l, m__law_one, b__law_one, k1, k2, k3, eqD_int, q1, q2, q3, lenD, ixD, getO, a0, intD, leF, ltF, h0]
theorem put_ok {l : List D} {i : Int} {y : D} {h : AH} (h0 : 0 ≤ i) (h1 : i < l.length) (hz : l.length ≤ 5000) : m_put_in [.tup l, .tup [.int i, y]] h = .ok (.tup (cut l none (some i) ++ [y] ++ cut l (some (i + 1)) none)) h ∧
    m__law_one [.str "put", .tup l, .tup [.int i, y]] h = .ok (Res.w (.tup (cut l none (some i) ++ [y] ++ cut l (some (i + 1)) none))).l h := by
  have q1 : eqD false (.str "put") (.str "many") h = .ok (.bl false) h := by kernel_rfl
  have q2 : eqD false (.str "put") (.str "at") h = .ok (.bl false) h := by kernel_rfl
  have q3 : eqD false (.str "put") (.str "put") h = .ok (.bl true) h := by kernel_rfl
  have k1 : m__law_kind [.tup l] h = .ok (.int 2) h := by kernel_rfl
  have k2 : m__law_kind [.tup [.int i, y]] h = .ok (.int 2) h := by kernel_rfl
  have k3 : m__law_kind [.int i] h = .ok (.int 0) h := by kernel_rfl
  have k4 : m_kind_of [.int i] h = .ok (.int 0) h := by kernel_rfl
  have e1 : m_check_kinds [.lst [.tup l, .tup [.int i, y]], .int 2] h = .ok .non h := by kernel_rfl
  have a0 : L2.atI [.int i, y] 0 = some (.int i) := rfl
  have a1 : L2.atI [.int i, y] 1 = some y := rfl
  obtain ⟨d, e, _⟩ := at_in h0 h1
  have z1 : (cut l none (some i)).length + 1 ≤ 16777216 := by have := cut_len (l := l) (lo := none) (hi := some i); omega
  have z2 : (cut l none (some i)).length + 1 + (cut l (some (i + 1)) none).length ≤ 16777216 := by
    have := cut_len (l := l) (lo := none) (hi := some i)
    have := cut_len (l := l) (lo := some (i + 1)) (hi := none)
    omega
  have z3 : (cut l none (some i)).length + ((cut l (some (i + 1)) none).length + 1) ≤ 16777216 := by omega
  constructor
  · simp [runF, startD, SR.out, retS, seqS, ifS, setS, dropS, nopS, R.toS, R.bind, pureE, consE, callE, callF, opE, unE, negD, chE, andE, orE, notE, ifE, valT, andT, orT, notT, un1, tupE, dispE, pureL, varE, sized, raiseF, fal, Res.p, Res.l, m_put_in, b_put_in, e1, lenD, eqD_int, ixD, getO, a0, a1, k4, member_ok h0 h1 e, slE, partE, slD, addD, z1, z2, z3]
  · simp [runF, startD, SR.out, retS, seqS, ifS, setS, dropS, nopS, R.toS, R.bind, pureE, consE, callE, callF, opE, unE, negD, chE, andE, orE, notE, ifE, valT, andT, orT, notT, un1, tupE, dispE, pureL, varE, sized, raiseF, fal, Res.p, Res.l, m__law_one, b__law_one, k1, k2, k3, eqD_int, q1, q2, q3, lenD, ixD, getO, a0, a1, intD, leF, ltF, h0, h1, slE, partE, slD, addD, z1, z2, z3]
theorem two_of {l : List D} (h : l.length = 2) : ∃ x y, l = [x, y] := by
  match l, h with
  | [x, y], _ => exact ⟨x, y, rfl⟩
theorem ag_put {n j k : Nat} {a b : D} (ha : Wd n a) (hb : Wd n b) (hn : n ≤ 30) : Ag (l_told_by (j + 2)) (l__law_deed (k + 1)) [.str "put", a, b] := by
  by_cases hc : kd a = 2 ∧ kd b = 2
  · obtain ⟨h1, h2⟩ := hc
    obtain ⟨m, l, hm, rfl, hz, hl⟩ := kd2 ha h1
    obtain ⟨m2, l2, hm2, rfl, _, hl2⟩ := kd2 hb h2
    by_cases h3 : l2.length = 2
    · obtain ⟨x, y, rfl⟩ := two_of h3
      have hx := hl2 x (by simp)
      have hy := hl2 y (by simp)
      by_cases h4 : kd x = 0
      · obtain ⟨i, rfl, _⟩ := kd0 hx h4
        by_cases hi : 0 ≤ i ∧ i < l.length
        · refine ⟨.w (.tup (cut l none (some i) ++ [y] ++ cut l (some (i + 1)) none)), Py.mono (Py.tup (m := 30) fun e he => ?_) (by omega), nopP fun h => by rw [told_eq mk_put, made_put]; exact (put_ok hi.1 hi.2 hz).1, nopL fun h => by rw [ldeed_put]; exact (put_ok hi.1 hi.2 hz).2⟩
          simp at he
          rcases he with he | rfl | he
          · exact Py.mono (hl e (cut_mem he)).Py (by omega)
          · exact Py.mono hy.Py (by omega)
          · exact Py.mono (hl e (cut_mem he)).Py (by omega)
        · exact ⟨.f "out", ok_out, nopP fun h => by rw [told_eq mk_put, made_put]; exact (put_out hi).1, nopL fun h => by rw [ldeed_put]; exact (put_out hi).2⟩
      · exact ⟨.f "kind", ok_kind, nopP fun h => by rw [told_eq mk_put, made_put]; exact (put_bad2 hx h4).1, nopL fun h => by rw [ldeed_put]; exact (put_bad2 hx h4).2⟩
    · exact ⟨.f "kind", ok_kind, nopP fun h => by rw [told_eq mk_put, made_put]; exact (put_bad1 (n := 0) h3).1, nopL fun h => by rw [ldeed_put]; exact (put_bad1 (n := 0) h3).2⟩
  · exact ⟨.f "kind", ok_kind, nopP fun h => by rw [told_eq mk_put, made_put]; exact (put_bad0 ha hb hc).1, nopL fun h => by rw [ldeed_put]; exact (put_bad0 ha hb hc).2⟩
end RF

set_option maxRecDepth 100000
set_option maxHeartbeats 1000000
namespace RF
open PySem PySem.Spec
theorem lstOf_new {h : AH} {l : List D} : lstOf (h ++ [.lst l]) (.ref h.length) = some l := by simp [lstOf]
theorem lstAt_new {h : AH} {l : List D} : lstAt (h ++ [.lst l]) (.ref h.length) = some (h.length, l) := by simp [lstAt]
theorem isL_new {h : AH} {l : List D} : isL (h ++ [.lst l]) (.ref h.length) = true := by simp [isL]
theorem set_new {h : AH} {o o' : O} : (h ++ [o]).set h.length o' = h ++ [o'] := by simp
theorem toPy_new {h : AH} {l : List D} : toPy (h ++ [.lst l]) (.ref h.length) = (toPys0 l).map .list := by simp [toPy]
theorem Pys_ok {n : Nat} {l : List D} (h : ∀ e ∈ l, Wd n e) : toPys0 l = some (Pds l) := pys_of fun e he => (h e he).py.1
theorem Pds_depth {n : Nat} {l : List D} (h : ∀ e ∈ l, Wd n e) : PyData.depthAll (Pds l) ≤ n := depthAll_le fun p hp => by
  obtain ⟨e, he, rfl⟩ := List.mem_map.mp hp
  exact (h e he).py.2.1
/-- the kinds fit for a list's deed -/
theorem two_bad {n : Nat} {a b : D} {h : AH} {x : Str} (ha : Wd n a) (hb : Wd n b) (c : Bool) (qu : ∀ h, inD false (.str x) (.tup [.str "union", .str "counts"]) h = .ok (.bl c) h) (hc : ¬ (kd a = 2 ∧ (c = true → kd b = 2))) : m_listed [.str x, a, b] h = fal "kind" h ∧ m__law_two [.str x, a, b] h = .ok (Res.f "kind").l h := by
  cases c with
  | false =>
    have h1 : kd a ≠ 2 := fun z => hc ⟨z, fun q => nomatch q⟩
    have e1 : m_check_kinds [.lst [a], .int 2] h = fal "kind" h := by rw [chk1 ha, if_pos h1]
    constructor
    · simp [runF, startD, SR.out, retS, seqS, ifS, setS, dropS, nopS, R.toS, R.bind, pureE, consE, callE, callF, opE, unE, negD, chE, andE, orE, notE, ifE, valT, andT, orT, notT, un1, tupE, dispE, pureL, varE, sized, raiseF, fal, Res.p, Res.l, m_listed, b_listed, e1, qu]
    · simp [runF, startD, SR.out, retS, seqS, ifS, setS, dropS, nopS, R.toS, R.bind, pureE, consE, callE, callF, opE, unE, negD, chE, andE, orE, notE, ifE, valT, andT, orT, notT, un1, tupE, dispE, pureL, varE, sized, raiseF, fal, Res.p, Res.l, m__law_two, b__law_two, lkind_ok ha, eqD_int, h1]
  | true =>
    have e1 : m_check_kinds [.lst [a, b], .int 2] h = fal "kind" h := by
      rw [chk2 ha hb, if_pos]
      by_cases h1 : kd a = 2
      · exact .inr fun z => hc ⟨h1, fun _ => z⟩
      · exact .inl h1
    constructor
    · simp [runF, startD, SR.out, retS, seqS, ifS, setS, dropS, nopS, R.toS, R.bind, pureE, consE, callE, callF, opE, unE, negD, chE, andE, orE, notE, ifE, valT, andT, orT, notT, un1, tupE, dispE, pureL, varE, sized, raiseF, fal, Res.p, Res.l, m_listed, b_listed, e1, qu]
    · by_cases h1 : kd a = 2
      · have h2 : kd b ≠ 2 := fun z => hc ⟨h1, fun _ => z⟩
        simp [runF, startD, SR.out, retS, seqS, ifS, setS, dropS, nopS, R.toS, R.bind, pureE, consE, callE, callF, opE, unE, negD, chE, andE, orE, notE, ifE, valT, andT, orT, notT, un1, tupE, dispE, pureL, varE, sized, raiseF, fal, Res.p, Res.l, m__law_two, b__law_two, lkind_ok ha, lkind_ok hb, eqD_int, h1, h2, qu]
      · simp [runF, startD, SR.out, retS, seqS, ifS, setS, dropS, nopS, R.toS, R.bind, pureE, consE, callE, callF, opE, unE, negD, chE, andE, orE, notE, ifE, valT, andT, orT, notT, un1, tupE, dispE, pureL, varE, sized, raiseF, fal, Res.p, Res.l, m__law_two, b__law_two, lkind_ok ha, eqD_int, h1]
theorem qu_add (h : AH) : inD false (.str "add") (.tup [.str "union", .str "counts"]) h = .ok (.bl false) h := by kernel_rfl
theorem qu_spread (h : AH) : inD false (.str "spread") (.tup [.str "union", .str "counts"]) h = .ok (.bl false) h := by kernel_rfl
theorem qu_union (h : AH) : inD false (.str "union") (.tup [.str "union", .str "counts"]) h = .ok (.bl true) h := by kernel_rfl
theorem qu_counts (h : AH) : inD false (.str "counts") (.tup [.str "union", .str "counts"]) h = .ok (.bl true) h := by kernel_rfl
/-! ### add -/
theorem add_ok {l : List D} {b : D} {h : AH} (hz : l.length ≤ 5000) : m_listed [.str "add", .tup l, b] h = .ok (.tup (l ++ [b])) h ∧
    m__law_two [.str "add", .tup l, b] h = .ok (if l.length + 1 ≤ 5000 then (Res.w (.tup (l ++ [b]))).l else (Res.f "big").l) (h ++ [.lst (l ++ [b])]) := by
  have e1 : m_check_kinds [.lst [.tup l], .int 2] h = .ok .non h := by kernel_rfl
  have q1 : ∀ h, eqD false (.str "add") (.str "many") h = .ok (.bl false) h := fun h => by kernel_rfl
  have q2 : ∀ h, eqD false (.str "add") (.str "at") h = .ok (.bl false) h := fun h => by kernel_rfl
  have q3 : ∀ h, eqD false (.str "add") (.str "add") h = .ok (.bl true) h := fun h => by kernel_rfl
  have q4 : ∀ h, eqD false (.str "add") (.str "spread") h = .ok (.bl false) h := fun h => by kernel_rfl
  have q5 : ∀ h, eqD false (.str "add") (.str "counts") h = .ok (.bl false) h := fun h => by kernel_rfl
  have q6 : ∀ h, eqD false (.str "add") (.str "union") h = .ok (.bl false) h := fun h => by kernel_rfl
  have k1 : m__law_kind [.tup l] h = .ok (.int 2) h := by kernel_rfl
  have z1 : l.length ≤ 16777216 := by omega
  have z2 : l.length + 1 ≤ 16777216 := by omega
  constructor
  · simp [runF, startD, SR.out, retS, seqS, ifS, setS, dropS, nopS, R.toS, R.bind, pureE, consE, callE, callF, opE, unE, negD, chE, andE, orE, notE, ifE, valT, andT, orT, notT, un1, tupE, dispE, pureL, varE, sized, raiseF, fal, Res.p, Res.l, m_listed, b_listed, e1, qu_add, q1, q2, q3, addD, z2]
  · by_cases hl : l.length + 1 ≤ 5000
    · have hl' : (l.length : Int) + 1 ≤ 5000 := by omega
      simp [runF, startD, SR.out, retS, seqS, ifS, setS, dropS, nopS, R.toS, R.bind, pureE, consE, callE, callF, opE, unE, negD, chE, andE, orE, notE, ifE, valT, andT, orT, notT, un1, tupE, dispE, pureL, varE, sized, raiseF, fal, Res.p, Res.l, m__law_two, b__law_two, k1, eqD_int, qu_add, q1, q2, q3, q4, q5, q6, newL, catN, listN, catOf, z1, z2, lenD, getO, lstOf_new, intD, leF, hl, hl', tupC]
    · have hl' : ¬ (l.length : Int) + 1 ≤ 5000 := by omega
      simp [runF, startD, SR.out, retS, seqS, ifS, setS, dropS, nopS, R.toS, R.bind, pureE, consE, callE, callF, opE, unE, negD, chE, andE, orE, notE, ifE, valT, andT, orT, notT, un1, tupE, dispE, pureL, varE, sized, raiseF, fal, Res.p, Res.l, m__law_two, b__law_two, k1, eqD_int, qu_add, q1, q2, q3, q4, q5, q6, newL, catN, listN, catOf, z1, z2, lenD, getO, lstOf_new, intD, leF, hl, hl', tupC]
theorem ag_add {n j k : Nat} {a b : D} (ha : Wd n a) (hb : Wd n b) (hn : n ≤ 30) : Ag (l_told_by (j + 2)) (l__law_deed (k + 1)) [.str "add", a, b] := by
  by_cases hc : kd a = 2
  · obtain ⟨m, l, hm, rfl, hz, hl⟩ := kd2 ha hc
    by_cases hs : l.length + 1 ≤ 5000
    · refine ⟨.w (.tup (l ++ [b])), Py.mono (Py.tup (m := 30) fun e he => ?_) (by omega), nopP fun h => ?_, fun h => ⟨[.lst (l ++ [b])], ?_⟩⟩
      · simp at he
        rcases he with he | rfl
        · exact Py.mono (hl e he).Py (by omega)
        · exact Py.mono hb.Py (by omega)
      · rw [told_mk mk_add (made_add.trans (add_ok hz).1), if_neg (by simp; omega)]
        rfl
      · rw [ldeed_add, (add_ok hz).2, if_pos hs]
    · refine ⟨.f "big", ok_big, nopP fun h => ?_, fun h => ⟨[.lst (l ++ [b])], ?_⟩⟩
      · rw [told_mk mk_add (made_add.trans (add_ok hz).1), if_pos (by simp; omega)]
        rfl
      · rw [ldeed_add, (add_ok hz).2, if_neg hs]
  · have hc' : ¬ (kd a = 2 ∧ (false = true → kd b = 2)) := fun z => hc z.1
    exact ⟨.f "kind", ok_kind, nopP fun h => told_ex (made_add.trans (two_bad ha hb false qu_add hc').1), nopL fun h => by rw [ldeed_add]; exact (two_bad ha hb false qu_add hc').2⟩
/-! ### spread -/
theorem spread_ok {l : List D} {b : D} {h : AH} (hz : l.length ≤ 5000) : m_listed [.str "spread", .tup l, b] h = .ok (.tup (l.map fun d => .tup [d, b])) h ∧
    m__law_two [.str "spread", .tup l, b] h = .ok (Res.w (.tup (l.map fun d => .tup [d, b]))).l h := by
  have e1 : m_check_kinds [.lst [.tup l], .int 2] h = .ok .non h := by kernel_rfl
  have q1 : ∀ h, eqD false (.str "spread") (.str "many") h = .ok (.bl false) h := fun h => by kernel_rfl
  have q2 : ∀ h, eqD false (.str "spread") (.str "at") h = .ok (.bl false) h := fun h => by kernel_rfl
  have q3 : ∀ h, eqD false (.str "spread") (.str "add") h = .ok (.bl false) h := fun h => by kernel_rfl
  have q4 : ∀ h, eqD false (.str "spread") (.str "spread") h = .ok (.bl true) h := fun h => by kernel_rfl
  have k1 : m__law_kind [.tup l] h = .ok (.int 2) h := by kernel_rfl
  have c1 : compE [3] (seqE (varE 1)) (gN 3) yesE (tupE (consE (varE 3) (consE (varE 2) (pureE [])))) [some (.str "spread"), some (.tup l), some b, none] h = .ok (l.map fun d => .tup [d, b]) h :=
    comp_ok (l := l) (h1 := h) (seqE_ok (d := .tup l) rfl rfl) (by omega) (compL_map (σg := fun d => [some (.str "spread"), some (.tup l), some b, some d]) (fun d hd => rfl) (fun d hd => rfl) (fun d hd => rfl))
  have c2 : compE [4] (seqE (varE 1)) (gN 4) yesE (tupE (consE (varE 4) (consE (varE 2) (pureE [])))) [some (.str "spread"), some (.tup l), some b, none, none] h = .ok (l.map fun d => .tup [d, b]) h :=
    comp_ok (l := l) (h1 := h) (seqE_ok (d := .tup l) rfl rfl) (by omega) (compL_map (σg := fun d => [some (.str "spread"), some (.tup l), some b, none, some d]) (fun d hd => rfl) (fun d hd => rfl) (fun d hd => rfl))
  constructor
  · show (b_listed [some (.str "spread"), some (.tup l), some b, none] h).out = _
    unfold b_listed
    rw [seqS_ok (d := .non) (h1 := h) (Eq.trans (b := m_check_kinds [.lst [.tup l], .int 2] h) (by kernel_rfl) e1), seq_skip (by kernel_rfl), seq_skip (by kernel_rfl), seq_skip (by kernel_rfl), seq_ret (by kernel_rfl)]
    simp only [callE, consE, pureL, c1, R.bind, pureE, un1, tupC, lstOf, getO]
  · show (b__law_two [some (.str "spread"), some (.tup l), some b, none, none] h).out = _
    unfold b__law_two
    rw [seq_skip (by kernel_rfl), seq_ret (by kernel_rfl)]
    simp only [callE, consE, pureL, c2, R.bind, pureE, un1, tupC, lstOf, getO, tupE]
    rfl
theorem ag_spread {n j k : Nat} {a b : D} (ha : Wd n a) (hb : Wd n b) (hn : n ≤ 30) : Ag (l_told_by (j + 2)) (l__law_deed (k + 1)) [.str "spread", a, b] := by
  by_cases hc : kd a = 2
  · obtain ⟨m, l, hm, rfl, hz, hl⟩ := kd2 ha hc
    refine ⟨.w (.tup (l.map fun d => .tup [d, b])), Py.mono (Py.tup (m := 31) fun e he => ?_) (by omega), nopP fun h => by rw [told_eq mk_spread, made_spread]; exact (spread_ok hz).1, nopL fun h => by rw [ldeed_spread]; exact (spread_ok hz).2⟩
    obtain ⟨d, hd, rfl⟩ := List.mem_map.mp he
    refine Py.tup fun e he => ?_
    simp at he
    rcases he with rfl | rfl
    · exact Py.mono (hl _ hd).Py (by omega)
    · exact Py.mono hb.Py (by omega)
  · have hc' : ¬ (kd a = 2 ∧ (false = true → kd b = 2)) := fun z => hc z.1
    exact ⟨.f "kind", ok_kind, nopP fun h => by rw [told_eq mk_spread, made_spread]; exact (two_bad ha hb false qu_spread hc').1, nopL fun h => by rw [ldeed_spread]; exact (two_bad ha hb false qu_spread hc').2⟩
/-! ### counts -/
theorem inD_tup {n m : Nat} {b : Bool} {x : D} {l : List D} {h : AH} (hx : Wd n x) (hl : ∀ e ∈ l, Wd m e) (hn : n ≤ 60) : inD b x (.tup l) h = .ok (.bl (b ^^ (Pds l).any fun z => PyData.eqv z (Pd x))) h := by
  have e1 : toPy h x = some (Pd x) := hx.toPy
  have e2 : toPy h (.tup l) = some (.tuple (Pds l)) := by
    show toPy0 _ = _
    unfold toPy0
    rw [Pys_ok hl]
    rfl
  have hb : Nat.ble (min (PyData.depthAll (Pds l)) (Pd x).depth) 64 = true := Nat.ble_eq.mpr (by have := hx.py.2.1; omega)
  have gen : (match toPy h x, toPy h (.tup l) with
    | some d, some (.list ds) => if Nat.ble (min (PyData.depthAll ds) d.depth) 64 then R.ok (D.bl (b ^^ ds.any fun z => PyData.eqv z d)) h else .stuck
    | some d, some (.tuple ds) => if Nat.ble (min (PyData.depthAll ds) d.depth) 64 then R.ok (D.bl (b ^^ ds.any fun z => PyData.eqv z d)) h else .stuck
    | _, _ => .stuck) = .ok (.bl (b ^^ (Pds l).any fun z => PyData.eqv z (Pd x))) h := by
    rw [e1, e2]
    simp only [hb, if_true]
  rcases hx.cases with ⟨i, rfl, _⟩ | ⟨y, rfl, _⟩ | ⟨k, l', _, rfl, _⟩ <;> exact gen
theorem inD_ref {n m : Nat} {b : Bool} {x : D} {l : List D} {h : AH} {i : Nat} (hx : Wd n x) (hl : ∀ e ∈ l, Wd m e) (hn : n ≤ 60) (e2 : h[i]? = some (.lst l)) : inD b x (.ref i) h = .ok (.bl (b ^^ (Pds l).any fun z => PyData.eqv z (Pd x))) h := by
  have e1 : toPy h x = some (Pd x) := hx.toPy
  have e3 : toPy h (.ref i) = some (.list (Pds l)) := by
    simp only [toPy, e2, Pys_ok hl]
    rfl
  have hb : Nat.ble (min (PyData.depthAll (Pds l)) (Pd x).depth) 64 = true := Nat.ble_eq.mpr (by have := hx.py.2.1; omega)
  have gen : (match toPy h x, toPy h (.ref i) with
    | some d, some (.list ds) => if Nat.ble (min (PyData.depthAll ds) d.depth) 64 then R.ok (D.bl (b ^^ ds.any fun z => PyData.eqv z d)) h else .stuck
    | some d, some (.tuple ds) => if Nat.ble (min (PyData.depthAll ds) d.depth) 64 then R.ok (D.bl (b ^^ ds.any fun z => PyData.eqv z d)) h else .stuck
    | _, _ => .stuck) = .ok (.bl (b ^^ (Pds l).any fun z => PyData.eqv z (Pd x))) h := by
    rw [e1, e3]
    simp only [hb, if_true]
  rcases hx.cases with ⟨i, rfl, _⟩ | ⟨y, rfl, _⟩ | ⟨k, l', _, rfl, _⟩ <;> exact gen
/-- the first place of an equal one, or behind all -/
def idx (l : List D) (x : D) : Nat := ((Pds l).findIdx? fun z => PyData.eqv z (Pd x)).getD l.length
theorem idx_in {n m : Nat} {x : D} {l : List D} {h : AH} {σ : SL} {i j : Nat} (hx : Wd n x) (hl : ∀ e ∈ l, Wd m e) (hn : n ≤ 60) (si : σ[i]? = some (some (.tup l))) (sj : σ[j]? = some (some x)) :
    ifE (valT (opE (inD false) (varE j) (varE i))) (indexT (varE i) (varE j)) (callE (un1 lenD) (consE (varE i) (pureE []))) σ h = .ok (.int (idx l x)) h := by
  have v1 : ∀ h, varE i σ h = .ok (.tup l) h := fun h => varE_ok si
  have v2 : ∀ h, varE j σ h = .ok x h := fun h => varE_ok sj
  have q := inD_tup (b := false) (h := h) hx hl hn
  have e1 : toPy h x = some (Pd x) := hx.toPy
  have e2 : toPy h (.tup l) = some (.tuple (Pds l)) := by
    show toPy0 _ = _
    unfold toPy0
    rw [Pys_ok hl]
    rfl
  have hb : Nat.ble (min (PyData.depthAll (Pds l)) (Pd x).depth) 64 = true := Nat.ble_eq.mpr (by have := hx.py.2.1; omega)
  unfold idx
  cases e : (Pds l).findIdx? fun z => PyData.eqv z (Pd x) with
  | none =>
    have ea : ((Pds l).any fun z => PyData.eqv z (Pd x)) = false := by
      rw [List.findIdx?_eq_none_iff] at e
      rw [List.any_eq_false]
      exact fun z hz => by simpa using e z hz
    rw [ea] at q
    simp only [ifE, valT, opE, v1, v2, R.bind, q, callE, consE, pureE, un1, lenD]
    rfl
  | some k =>
    have ea : ((Pds l).any fun z => PyData.eqv z (Pd x)) = true := by
      have := List.findIdx?_isSome (xs := Pds l) (p := fun z => PyData.eqv z (Pd x))
      rw [e] at this
      exact this.symm
    rw [ea] at q
    simp only [ifE, valT, opE, v1, v2, R.bind, q, indexT, tyT, e1, e2, getR, hb, ixOf, e, if_true, Bool.false_xor]
    rfl
theorem idx_law {n m : Nat} {x : D} {l : List D} {h : AH} {σ : SL} {i j : Nat} (hx : Wd n x) (hl : ∀ e ∈ l, Wd m e) (hn : n ≤ 60) (hm : m ≤ 60) (hz : l.length ≤ 5000) (si : σ[i]? = some (some (.tup l))) (sj : σ[j]? = some (some x)) :
    indexL (opE addD (pureL (listN (varE i))) (pureL (dispE (consE (varE j) (pureE []))))) (varE j) σ h = .ok (.int (idx l x)) h := by
  have v1 : ∀ h, varE i σ h = .ok (.tup l) h := fun h => varE_ok si
  have v2 : ∀ h, varE j σ h = .ok x h := fun h => varE_ok sj
  have e1 : toPy h x = some (Pd x) := hx.toPy
  have e2 : toPy h (.lst (l ++ [x])) = some (.list (Pds l ++ [Pd x])) := by
    show toPy0 _ = _
    unfold toPy0
    have : toPys0 (l ++ [x]) = some (Pds (l ++ [x])) := pys_of fun e he => by
      rcases List.mem_append.mp he with he | he
      · exact (hl e he).py.1
      · rw [List.mem_singleton.mp he]; exact hx.py.1
    rw [this]
    unfold Pds
    rw [List.map_append]
    rfl
  have hd : PyData.depth (.list (Pds l ++ [Pd x])) ≤ 64 := by
    show PyData.depthAll _ + 1 ≤ 64
    refine Nat.succ_le_succ (Nat.le_trans (depthAll_le (n := 60) fun p hp => ?_) (by decide))
    rcases List.mem_append.mp hp with hp | hp
    · obtain ⟨e, he, rfl⟩ := List.mem_map.mp hp
      exact Nat.le_trans (hl e he).py.2.1 hm
    · rw [List.mem_singleton.mp hp]; exact Nat.le_trans hx.py.2.1 hn
  have hd2 : (Pd x).depth ≤ 64 := Nat.le_trans hx.py.2.1 (by omega)
  have ei : (Pds l ++ [Pd x]).findIdx? (fun z => PyData.eqv z (Pd x)) = some (idx l x) := by
    unfold idx
    rw [List.findIdx?_append]
    cases e : (Pds l).findIdx? fun z => PyData.eqv z (Pd x) with
    | some k => rfl
    | none =>
      have er : PyData.eqv (Pd x) (Pd x) = true := SeqAt.eqv_refl _ hx.py.2.2
      simp [List.findIdx?_cons, er, Pds]
  have z2 : l.length + 1 ≤ 16777216 := by omega
  simp [indexL, opE, pureL, listN, v1, v2, R.bind, dispE, consE, pureE, sized, addD, catOf, z2, isLs, lstOf, getR, e1, e2, hd, hd2, ixOf, ei]
theorem counts_ok {n m : Nat} {l l2 : List D} {h : AH} (hl : ∀ e ∈ l, Wd m e) (hl2 : ∀ e ∈ l2, Wd n e) (hn : n ≤ 60) (hm : m ≤ 60) (hz : l.length ≤ 5000) (hz2 : l2.length ≤ 5000) : m_listed [.str "counts", .tup l, .tup l2] h = .ok (.tup (l2.map fun x => .int (idx l x))) h ∧
    m__law_two [.str "counts", .tup l, .tup l2] h = .ok (Res.w (.tup (l2.map fun x => .int (idx l x)))).l (h ++ [.lst l]) := by
  have c1 : compE [3] (seqE (varE 2)) (gN 3) yesE (ifE (valT (opE (inD false) (varE 3) (varE 1))) (indexT (varE 1) (varE 3)) (callE (un1 lenD) (consE (varE 1) (pureE [])))) [some (.str "counts"), some (.tup l), some (.tup l2), none] h = .ok (l2.map fun x => .int (idx l x)) h :=
    comp_ok (l := l2) (h1 := h) (seqE_ok (d := .tup l2) rfl rfl) (by omega) (compL_map (σg := fun d => [some (.str "counts"), some (.tup l), some (.tup l2), some d]) (fun d hd => rfl) (fun d hd => rfl) (fun d hd => idx_in (hl2 d hd) hl hn rfl rfl))
  have c2 : compE [4] (seqE (varE 2)) (gN 4) yesE (indexL (opE addD (pureL (listN (varE 1))) (pureL (dispE (consE (varE 4) (pureE []))))) (varE 4)) [some (.str "counts"), some (.tup l), some (.tup l2), some (.ref h.length), none] (h ++ [.lst l]) = .ok (l2.map fun x => .int (idx l x)) (h ++ [.lst l]) :=
    comp_ok (l := l2) (h1 := h ++ [.lst l]) (seqE_ok (d := .tup l2) rfl rfl) (by omega) (compL_map (σg := fun d => [some (.str "counts"), some (.tup l), some (.tup l2), some (.ref h.length), some d]) (fun d hd => rfl) (fun d hd => rfl) (fun d hd => idx_law (hl2 d hd) hl hn hm hz rfl rfl))
  have e1 : m_check_kinds [.lst [.tup l, .tup l2], .int 2] h = .ok .non h := by kernel_rfl
  constructor
  · show (b_listed [some (.str "counts"), some (.tup l), some (.tup l2), none] h).out = _
    unfold b_listed
    rw [seqS_ok (d := .non) (h1 := h) (Eq.trans (b := m_check_kinds [.lst [.tup l, .tup l2], .int 2] h) (by kernel_rfl) e1), seq_skip (by kernel_rfl), seq_skip (by kernel_rfl), seq_skip (by kernel_rfl), seq_skip (by kernel_rfl), seq_ret (by kernel_rfl)]
    simp only [callE, consE, pureL, c1, R.bind, pureE, un1, tupC, lstOf, getO]
  · have q3 : ∀ h, eqD false (.str "counts") (.str "add") h = .ok (.bl false) h := fun h => by kernel_rfl
    have q4 : ∀ h, eqD false (.str "counts") (.str "spread") h = .ok (.bl false) h := fun h => by kernel_rfl
    have q5 : ∀ h, eqD false (.str "counts") (.str "counts") h = .ok (.bl true) h := fun h => by kernel_rfl
    have k1 : m__law_kind [.tup l] h = .ok (.int 2) h := by kernel_rfl
    have k2 : m__law_kind [.tup l2] h = .ok (.int 2) h := by kernel_rfl
    have z1 : l.length ≤ 16777216 := by omega
    simp [runF, startD, SR.out, retS, seqS, ifS, setS, dropS, nopS, R.toS, R.bind, pureE, consE, callE, callF, opE, unE, negD, chE, andE, orE, notE, ifE, valT, andT, orT, notT, un1, tupE, dispE, pureL, varE, sized, raiseF, fal, Res.p, Res.l, m__law_two, b__law_two, k1, k2, eqD_int, qu_counts, q3, q4, q5, newL, catN, listN, catOf, z1, c2, tupC, lstOf, getO]
theorem ag_counts {n j k : Nat} {a b : D} (ha : Wd n a) (hb : Wd n b) (hn : n ≤ 30) : Ag (l_told_by (j + 2)) (l__law_deed (k + 1)) [.str "counts", a, b] := by
  by_cases hc : kd a = 2 ∧ (true = true → kd b = 2)
  · obtain ⟨m, l, hm, rfl, hz, hl⟩ := kd2 ha hc.1
    obtain ⟨m2, l2, hm2, rfl, hz2, hl2⟩ := kd2 hb (hc.2 rfl)
    refine ⟨.w (.tup (l2.map fun x => .int (idx l x))), Py.mono (Py.tup (m := 0) fun e he => ?_) (by omega), nopP fun h => by rw [told_eq mk_counts, made_counts]; exact (counts_ok hl hl2 (by omega) (by omega) hz hz2).1, fun h => ⟨[.lst l], by rw [ldeed_counts]; exact (counts_ok hl hl2 (by omega) (by omega) hz hz2).2⟩⟩
    obtain ⟨d, hd, rfl⟩ := List.mem_map.mp he
    exact Py.int
  · exact ⟨.f "kind", ok_kind, nopP fun h => by rw [told_eq mk_counts, made_counts]; exact (two_bad ha hb true qu_counts hc).1, nopL fun h => by rw [ldeed_counts]; exact (two_bad ha hb true qu_counts hc).2⟩
end RF

set_option maxRecDepth 100000
set_option maxHeartbeats 1000000
namespace RF
open PySem PySem.Spec
/-! ### union -/
def unite : List D → List D → List D
  | acc, [] => acc
  | acc, x :: l => if (Pds acc).any (fun z => PyData.eqv z (Pd x)) then unite acc l else unite (acc ++ [x]) l
theorem unite_len : ∀ (l acc : List D), (unite acc l).length ≤ acc.length + l.length
  | [], acc => Nat.le_refl _
  | x :: l, acc => by
    unfold unite
    split
    · have := unite_len l acc
      rw [List.length_cons]; omega
    · have := unite_len l (acc ++ [x])
      rw [List.length_append] at this
      simp at this
      rw [List.length_cons]; omega
theorem unite_mem {P : D → Prop} : ∀ (l acc : List D), (∀ e ∈ acc, P e) → (∀ e ∈ l, P e) → ∀ e ∈ unite acc l, P e
  | [], acc, h1, _ => h1
  | x :: l, acc, h1, h2 => by
    unfold unite
    split
    · exact unite_mem l acc h1 fun e he => h2 e (List.mem_cons_of_mem _ he)
    · refine unite_mem l (acc ++ [x]) (fun e he => ?_) fun e he => h2 e (List.mem_cons_of_mem _ he)
      rcases List.mem_append.mp he with he | he
      · exact h1 e he
      · rw [List.mem_singleton.mp he]; exact h2 x List.mem_cons_self
theorem set_get {σ : SL} {i k : Nat} {x : Option D} (hk : k ≠ i) : (σ.set i x)[k]? = σ[k]? := List.getElem?_set_ne (Ne.symm hk)
theorem loop_un {i j : Nat} (hij : i ≠ j) {n m : Nat} (hn : n ≤ 60) (hm : m ≤ 60) : ∀ (l : List D) (σ : SL) (h : AH) (acc : List D) (r : Nat), i < σ.length → σ[j]? = some (some (.ref r)) → h[r]? = some (.lst acc) → (∀ e ∈ acc, Wd m e) → (∀ e ∈ l, Wd n e) → n ≤ m → acc.length + l.length < 16777216 →
    ∃ σ', forL (gN i) (ifS (valT (opE (inD true) (varE i) (varE j))) (dropS (appL (varE j) (varE i))) nopS) l σ h = .nx σ' (h.set r (.lst (unite acc l))) ∧ ∀ k, k ≠ i → σ'[k]? = σ[k]?
  | [], σ, h, acc, r, hi, hj, hr, h1, h2, _, hz => by
    refine ⟨σ, ?_, fun k _ => rfl⟩
    unfold forL unite
    have : h.set r (.lst acc) = h := by
      obtain ⟨hlt, e⟩ := List.getElem?_eq_some_iff.mp hr
      exact List.ext_getElem? fun k => by
        by_cases hk : r = k
        · subst hk; rw [List.getElem?_set_self hlt, hr]
        · rw [List.getElem?_set_ne hk]
    rw [this]
  | x :: l, σ, h, acc, r, hi, hj, hr, h1, h2, hnm, hz => by
    have hx := h2 x List.mem_cons_self
    obtain ⟨hlt, _⟩ := List.getElem?_eq_some_iff.mp hr
    have vi : ∀ h, varE i (σ.set i (some x)) h = .ok x h := fun h => varE_ok (List.getElem?_set_self hi)
    have vj : ∀ h, varE j (σ.set i (some x)) h = .ok (.ref r) h := fun h => varE_ok (by rw [set_get (Ne.symm hij)]; exact hj)
    have q := inD_ref (b := true) hx h1 hn hr
    have hj2 : (σ.set i (some x))[j]? = some (some (.ref r)) := by rw [set_get (Ne.symm hij)]; exact hj
    have hz' : acc.length + (l.length + 1) < 16777216 := by simpa using hz
    unfold forL
    simp only [gN]
    cases ea : (Pds acc).any fun z => PyData.eqv z (Pd x) with
    | true =>
      rw [ea] at q
      have e : ifS (valT (opE (inD true) (varE i) (varE j))) (dropS (appL (varE j) (varE i))) nopS (σ.set i (some x)) h = .nx (σ.set i (some x)) h := by
        simp only [ifS, valT, opE, vi, vj, R.bind, q, R.toS]
        rfl
      rw [e]
      obtain ⟨σ', e', hs⟩ := loop_un hij hn hm l (σ.set i (some x)) h acc r (by rw [List.length_set]; exact hi) hj2 hr h1 (fun e he => h2 e (List.mem_cons_of_mem _ he)) hnm (by omega)
      refine ⟨σ', ?_, fun k hk => by rw [hs k hk, set_get hk]⟩
      unfold unite
      rw [ea]
      exact e'
    | false =>
      rw [ea] at q
      have il : isL h (.ref r) = true := by simp [isL, hr]
      have la : lstAt h (.ref r) = some (r, acc) := by simp [lstAt, hr]
      have hb : Nat.blt acc.length 16777216 = true := by
        have : acc.length < 16777216 := by omega
        simp [Nat.blt]; omega
      have e : ifS (valT (opE (inD true) (varE i) (varE j))) (dropS (appL (varE j) (varE i))) nopS (σ.set i (some x)) h = .nx (σ.set i (some x)) (h.set r (.lst (acc ++ [x]))) := by
        simp only [ifS, valT, opE, vi, vj, R.bind, q, R.toS, dropS, appL, il, la, getR, hb, if_true]
        rfl
      rw [e]
      have hr2 : (h.set r (.lst (acc ++ [x])))[r]? = some (.lst (acc ++ [x])) := List.getElem?_set_self hlt
      obtain ⟨σ', e', hs⟩ := loop_un hij hn hm l (σ.set i (some x)) (h.set r (.lst (acc ++ [x]))) (acc ++ [x]) r (by rw [List.length_set]; exact hi) hj2 hr2 (fun e he => by
        rcases List.mem_append.mp he with he | he
        · exact h1 e he
        · rw [List.mem_singleton.mp he]; exact hx.mono hnm) (fun e he => h2 e (List.mem_cons_of_mem _ he)) hnm (by rw [List.length_append]; simp; omega)
      refine ⟨σ', ?_, fun k hk => by rw [hs k hk, set_get hk]⟩
      unfold unite
      rw [ea, if_neg Bool.false_ne_true]
      rw [List.set_set] at e'
      exact e'
theorem united_ok {n : Nat} {l l2 : List D} {h : AH} (hl : ∀ e ∈ l, Wd n e) (hl2 : ∀ e ∈ l2, Wd n e) (hn : n ≤ 60) (hz : l.length ≤ 5000) (hz2 : l2.length ≤ 5000) : m_united [.tup l, .tup l2] h = .ok (.tup (unite l l2)) (h ++ [.lst (unite l l2)]) := by
  obtain ⟨σ', e, hs⟩ := loop_un (i := 3) (j := 2) (by decide) hn hn l2 [some (.tup l), some (.tup l2), some (.ref h.length), none] (h ++ [.lst l]) l h.length (by simp) rfl (by simp) hl hl2 (Nat.le_refl _) (by omega)
  rw [set_new] at e
  have v2 : ∀ h', varE 2 σ' h' = .ok (.ref h.length) h' := fun h' => varE_ok (by rw [hs 2 (by decide)]; rfl)
  simp [runF, startD, SR.out, retS, seqS, ifS, setS, dropS, nopS, R.toS, R.bind, pureE, consE, callE, callF, opE, unE, negD, chE, andE, orE, notE, ifE, valT, andT, orT, notT, un1, tupE, dispE, pureL, varE, sized, raiseF, fal, Res.p, Res.l, m_united, b_united, newL, listN, forS, seqE, seqOf, e]
  simp [varE] at v2
  cases q : σ'[2]? with
  | none => rw [hs 2 (by decide)] at q; cases q
  | some o =>
    rw [hs 2 (by decide)] at q
    have q' : some (.ref h.length) = o := Option.some.inj q
    subst q'
    simp [runF, startD, SR.out, retS, seqS, ifS, setS, dropS, nopS, R.toS, R.bind, pureE, consE, callE, callF, opE, unE, negD, chE, andE, orE, notE, ifE, valT, andT, orT, notT, un1, tupE, dispE, pureL, varE, sized, raiseF, fal, Res.p, Res.l, tupC, lstOf, getO]
theorem union_ok {n : Nat} {l l2 : List D} {h : AH} (hl : ∀ e ∈ l, Wd n e) (hl2 : ∀ e ∈ l2, Wd n e) (hn : n ≤ 60) (hz : l.length ≤ 5000) (hz2 : l2.length ≤ 5000) : m_listed [.str "union", .tup l, .tup l2] h = .ok (.tup (unite l l2)) (h ++ [.lst (unite l l2)]) := by
  have e1 : m_check_kinds [.lst [.tup l, .tup l2], .int 2] h = .ok .non h := by kernel_rfl
  show (b_listed [some (.str "union"), some (.tup l), some (.tup l2), none] h).out = _
  unfold b_listed
  rw [seqS_ok (d := .non) (h1 := h) (Eq.trans (b := m_check_kinds [.lst [.tup l, .tup l2], .int 2] h) (by kernel_rfl) e1), seq_skip (by kernel_rfl), seq_skip (by kernel_rfl), seq_skip (by kernel_rfl), seq_skip (by kernel_rfl), seq_skip (by kernel_rfl), last_ret]
  exact united_ok hl hl2 hn hz hz2
theorem union_law {n : Nat} {l l2 : List D} {h : AH} (hl : ∀ e ∈ l, Wd n e) (hl2 : ∀ e ∈ l2, Wd n e) (hn : n ≤ 60) (hz : l.length ≤ 5000) (hz2 : l2.length ≤ 5000) : m__law_two [.str "union", .tup l, .tup l2] h = .ok (if (unite l l2).length ≤ 5000 then (Res.w (.tup (unite l l2))).l else (Res.f "big").l) (h ++ [.lst (unite l l2)]) := by
  obtain ⟨σ', e, hs⟩ := loop_un (i := 4) (j := 3) (by decide) hn hn l2 [some (.str "union"), some (.tup l), some (.tup l2), some (.ref h.length), none] (h ++ [.lst l]) l h.length (by simp) rfl (by simp) hl hl2 (Nat.le_refl _) (by omega)
  rw [set_new] at e
  have q3 : ∀ h, eqD false (.str "union") (.str "add") h = .ok (.bl false) h := fun h => by kernel_rfl
  have q4 : ∀ h, eqD false (.str "union") (.str "spread") h = .ok (.bl false) h := fun h => by kernel_rfl
  have q5 : ∀ h, eqD false (.str "union") (.str "counts") h = .ok (.bl false) h := fun h => by kernel_rfl
  have q6 : ∀ h, eqD false (.str "union") (.str "union") h = .ok (.bl true) h := fun h => by kernel_rfl
  have k1 : m__law_kind [.tup l] h = .ok (.int 2) h := by kernel_rfl
  have k2 : m__law_kind [.tup l2] h = .ok (.int 2) h := by kernel_rfl
  have z1 : l.length ≤ 16777216 := by omega
  have s3 : σ'[3]? = some (some (.ref h.length)) := by rw [hs 3 (by decide)]; rfl
  by_cases hlen : (unite l l2).length ≤ 5000
  · have hl' : ((unite l l2).length : Int) ≤ 5000 := by omega
    simp [runF, startD, SR.out, retS, seqS, ifS, setS, dropS, nopS, R.toS, R.bind, pureE, consE, callE, callF, opE, unE, negD, chE, andE, orE, notE, ifE, valT, andT, orT, notT, un1, tupE, dispE, pureL, varE, sized, raiseF, fal, Res.p, Res.l, m__law_two, b__law_two, k1, k2, eqD_int, qu_union, q3, q4, q5, q6, newL, catN, listN, catOf, z1, forS, seqE, seqOf, e, s3, lenD, getO, lstOf_new, intD, leF, hlen, hl', tupC]
  · have hl' : ¬ ((unite l l2).length : Int) ≤ 5000 := by omega
    simp [runF, startD, SR.out, retS, seqS, ifS, setS, dropS, nopS, R.toS, R.bind, pureE, consE, callE, callF, opE, unE, negD, chE, andE, orE, notE, ifE, valT, andT, orT, notT, un1, tupE, dispE, pureL, varE, sized, raiseF, fal, Res.p, Res.l, m__law_two, b__law_two, k1, k2, eqD_int, qu_union, q3, q4, q5, q6, newL, catN, listN, catOf, z1, forS, seqE, seqOf, e, s3, lenD, getO, lstOf_new, intD, leF, hlen, hl', tupC]
theorem ag_union {n j k : Nat} {a b : D} (ha : Wd n a) (hb : Wd n b) (hn : n ≤ 30) : Ag (l_told_by (j + 2)) (l__law_deed (k + 1)) [.str "union", a, b] := by
  by_cases hc : kd a = 2 ∧ (true = true → kd b = 2)
  · obtain ⟨m, l, hm, rfl, hz, hl⟩ := kd2 ha hc.1
    obtain ⟨m2, l2, hm2, rfl, hz2, hl2⟩ := kd2 hb (hc.2 rfl)
    have hl' : ∀ e ∈ l, Wd 30 e := fun e he => (hl e he).mono (by omega)
    have hl2' : ∀ e ∈ l2, Wd 30 e := fun e he => (hl2 e he).mono (by omega)
    by_cases hs : (unite l l2).length ≤ 5000
    · refine ⟨.w (.tup (unite l l2)), Py.mono (Py.tup (m := 30) fun e he => ?_) (by omega), fun h => ⟨[.lst (unite l l2)], ?_⟩, fun h => ⟨[.lst (unite l l2)], ?_⟩⟩
      · exact (unite_mem (P := fun e => Wd 30 e) l2 l hl' hl2' e he).Py
      · rw [told_mk mk_union (made_union.trans (union_ok hl' hl2' (by omega) hz hz2)), if_neg (by omega)]
        rfl
      · rw [ldeed_union, union_law hl' hl2' (by omega) hz hz2, if_pos hs]
    · refine ⟨.f "big", ok_big, fun h => ⟨[.lst (unite l l2)], ?_⟩, fun h => ⟨[.lst (unite l l2)], ?_⟩⟩
      · rw [told_mk mk_union (made_union.trans (union_ok hl' hl2' (by omega) hz hz2)), if_pos (by omega)]
        rfl
      · rw [ldeed_union, union_law hl' hl2' (by omega) hz hz2, if_neg hs]
  · exact ⟨.f "kind", ok_kind, nopP fun h => told_ex (made_union.trans (two_bad ha hb true qu_union hc).1), nopL fun h => by rw [ldeed_union]; exact (two_bad ha hb true qu_union hc).2⟩
end RF

set_option maxRecDepth 100000
set_option maxHeartbeats 1000000
namespace RF
open PySem PySem.Spec
/-! ### pairs behind a tag -/
def tagd (s : Str) : D → Bool
  | .tup [c, _] => eqP c (.str s)
  | _ => false
def snd2 : D → D
  | .tup [_, d] => d
  | d => d
def iv : D → Int
  | .int i => i
  | _ => 0
theorem tagd_pair {s : Str} {x : D} (h : tagd s x = true) : ∃ c d, x = .tup [c, d] := by
  match x, h with
  | .tup [c, d], _ => exact ⟨c, d, rfl⟩
theorem tag_T {kf : List D → AH → R D} {n i : Nat} {x : D} {s : Str} {σ : SL} {h : AH} (hk : ∀ h, kf [x] h = .ok (.int (kd x)) h) (si : σ[i]? = some (some x)) (hx : Wd n x) (hn : n ≤ 60) (hs : s ∈ okw) :
    andT (valT (opE (eqD false) (callF kf (consE (varE i) (pureE []))) (pureE (.int 2)))) (andT (valT (opE (eqD false) (callE (un1 lenD) (consE (varE i) (pureE []))) (pureE (.int 2)))) (valT (opE (eqD false) (opE ixD (varE i) (pureE (.int 0))) (pureE (.str s))))) σ h = .ok (tagd s x) h := by
  have v : ∀ h, varE i σ h = .ok x h := fun h => varE_ok si
  rcases hx.cases with ⟨k, rfl, _⟩ | ⟨y, rfl, _⟩ | ⟨m, l, hm, rfl, _, hl⟩
  · simp [andT, valT, opE, callF, consE, pureE, v, R.bind, hk, eqD_int, kd, tagd]
  · simp [andT, valT, opE, callF, consE, pureE, v, R.bind, hk, eqD_int, kd, tagd]
  · by_cases h2 : l.length = 2
    · obtain ⟨c, d, rfl⟩ := two_of h2
      have q := eqD_ok (b := false) (h := h) (hl c (by simp)) (Wd.str (n := 0) hs) (by omega)
      have a0 : L2.atI [c, d] 0 = some c := rfl
      simp [andT, valT, opE, callF, consE, pureE, v, R.bind, hk, eqD_int, kd, callE, un1, lenD, ixD, getO, a0, q, tagd]
    · have h2' : ¬ (l.length : Int) = 2 := by omega
      have ht : tagd s (.tup l) = false := by
        match l, h2 with
        | [], _ => rfl
        | [_], _ => rfl
        | [_, _], h2 => exact absurd rfl h2
        | _ :: _ :: _ :: _, _ => rfl
      simp [andT, valT, opE, callF, consE, pureE, v, R.bind, hk, eqD_int, kd, callE, un1, lenD, h2', ht]
theorem tag_E {kf : List D → AH → R D} {n i : Nat} {x : D} {s : Str} {σ : SL} {h : AH} (hk : ∀ h, kf [x] h = .ok (.int (kd x)) h) (si : σ[i]? = some (some x)) (hx : Wd n x) (hn : n ≤ 60) (hs : s ∈ okw) :
    andE (opE (eqD false) (callF kf (consE (varE i) (pureE []))) (pureE (.int 2))) (andE (opE (eqD false) (callE (un1 lenD) (consE (varE i) (pureE []))) (pureE (.int 2))) (opE (eqD false) (opE ixD (varE i) (pureE (.int 0))) (pureE (.str s)))) σ h = .ok (.bl (tagd s x)) h := by
  have v : ∀ h, varE i σ h = .ok x h := fun h => varE_ok si
  rcases hx.cases with ⟨k, rfl, _⟩ | ⟨y, rfl, _⟩ | ⟨m, l, hm, rfl, _, hl⟩
  · simp [andE, opE, callF, consE, pureE, v, R.bind, hk, eqD_int, kd, tagd]
  · simp [andE, opE, callF, consE, pureE, v, R.bind, hk, eqD_int, kd, tagd]
  · by_cases h2 : l.length = 2
    · obtain ⟨c, d, rfl⟩ := two_of h2
      have q := eqD_ok (b := false) (h := h) (hl c (by simp)) (Wd.str (n := 0) hs) (by omega)
      have a0 : L2.atI [c, d] 0 = some c := rfl
      simp [andE, opE, callF, consE, pureE, v, R.bind, hk, eqD_int, kd, callE, un1, lenD, ixD, getO, a0, q, tagd]
    · have h2' : ¬ (l.length : Int) = 2 := by omega
      have ht : tagd s (.tup l) = false := by
        match l, h2 with
        | [], _ => rfl
        | [_], _ => rfl
        | [_, _], h2 => exact absurd rfl h2
        | _ :: _ :: _ :: _, _ => rfl
      simp [andE, opE, callF, consE, pureE, v, R.bind, hk, eqD_int, kd, callE, un1, lenD, h2', ht]
theorem e_in : ("e" : Str) ∈ okw := by decide +kernel
theorem c_in : ("c" : Str) ∈ okw := by decide +kernel
theorem snd_ok {n : Nat} {s : Str} {x : D} (hx : Wd n x) (ht : tagd s x = true) : Wd n (snd2 x) := by
  obtain ⟨c, d, rfl⟩ := tagd_pair ht
  rcases hx.cases with ⟨_, e, _⟩ | ⟨_, e, _⟩ | ⟨m, l, hm, e, _, hl⟩
  · cases e
  · cases e
  · cases e
    exact (hl d (by simp)).mono (by omega)
/-- a filled operand -/
def fillF (s : List D) (x : D) : D := if tagd "e" x then .tup [.str "c", (L2.atI s (iv (snd2 x))).getD .non] else x
def inR (s : List D) (x : D) : Bool := !tagd "e" x || decide (0 ≤ iv (snd2 x) ∧ iv (snd2 x) < s.length)
abbrev fillB : S1 := seqS (setS 5 (andE (opE (eqD false) (callF m_kind_of (consE (varE 4) (pureE []))) (pureE (.int 2))) (andE (opE (eqD false) (callE (un1 lenD) (consE (varE 4) (pureE []))) (pureE (.int 2))) (opE (eqD false) (opE ixD (varE 4) (pureE (.int 0))) (pureE (.str "e")))))) (dropS (appL (varE 3) (ifE (valT (varE 5)) (tupE (consE (pureE (.str "c")) (consE (callF m_member (consE (varE 1) (consE (opE ixD (varE 4) (pureE (.int 1))) (pureE [])))) (pureE [])))) (varE 4))))
theorem loop_fill {n : Nat} (hn : n ≤ 60) {s : List D} {a p : D} {r : Nat} : ∀ (l : List D) (u v : Option D) (h : AH) (acc : List D), h[r]? = some (.lst acc) → (∀ e ∈ l, Wd n e) → (∀ e ∈ l, tagd "e" e = true → kd (snd2 e) = 0) → acc.length + l.length < 16777216 →
    (l.all (inR s) = true → ∃ u' v', forL (gN 4) fillB l [some a, some (.tup s), some p, some (.ref r), u, v] h = .nx [some a, some (.tup s), some p, some (.ref r), u', v'] (h.set r (.lst (acc ++ l.map (fillF s))))) ∧
    (l.all (inR s) = false → ∃ σ' acc', forL (gN 4) fillB l [some a, some (.tup s), some p, some (.ref r), u, v] h = .exc ⟨"Fallen", [("word", .str "out")]⟩ σ' (h.set r (.lst acc')))
  | [], u, v, h, acc, hr, _, _, _ => by
    refine ⟨fun _ => ⟨u, v, ?_⟩, fun q => nomatch q⟩
    unfold forL
    have : h.set r (.lst acc) = h := by
      obtain ⟨hlt, e⟩ := List.getElem?_eq_some_iff.mp hr
      exact List.ext_getElem? fun k => by
        by_cases hk : r = k
        · subst hk; rw [List.getElem?_set_self hlt, hr]
        · rw [List.getElem?_set_ne hk]
    simp [this]
  | x :: l, u, v, h, acc, hr, h1, h2, hz => by
    have hx := h1 x List.mem_cons_self
    obtain ⟨hlt, _⟩ := List.getElem?_eq_some_iff.mp hr
    have hz' : acc.length + (l.length + 1) < 16777216 := by simpa using hz
    have il : ∀ h' : AH, h'[r]? = some (.lst acc) → isL h' (.ref r) = true := fun h' e => by simp [isL, e]
    have la : ∀ h' : AH, h'[r]? = some (.lst acc) → lstAt h' (.ref r) = some (r, acc) := fun h' e => by simp [lstAt, e]
    have hb : Nat.blt acc.length 16777216 = true := by simp [Nat.blt]; omega
    have et := tag_E (σ := [some a, some (.tup s), some p, some (.ref r), some x, v]) (i := 4) (h := h) (fun h => kind_ok hx) rfl hx hn e_in
    have st : forL (gN 4) fillB (x :: l) [some a, some (.tup s), some p, some (.ref r), u, v] h = (match fillB [some a, some (.tup s), some p, some (.ref r), some x, v] h with
      | .nx σ2 h2 => forL (gN 4) fillB l σ2 h2
      | .ct σ2 h2 => forL (gN 4) fillB l σ2 h2
      | .bk σ2 h2 => .nx σ2 h2
      | r => r) := rfl
    rw [st]
    have next : ∀ y, fillB [some a, some (.tup s), some p, some (.ref r), some x, v] h = .nx [some a, some (.tup s), some p, some (.ref r), some x, some (.bl (tagd "e" x))] (h.set r (.lst (acc ++ [y]))) → y = fillF s x → inR s x = true →
        ((x :: l).all (inR s) = true → ∃ u' v', (match fillB [some a, some (.tup s), some p, some (.ref r), some x, v] h with
          | .nx σ2 h2 => forL (gN 4) fillB l σ2 h2
          | .ct σ2 h2 => forL (gN 4) fillB l σ2 h2
          | .bk σ2 h2 => .nx σ2 h2
          | r => r) = .nx [some a, some (.tup s), some p, some (.ref r), u', v'] (h.set r (.lst (acc ++ (x :: l).map (fillF s))))) ∧
        ((x :: l).all (inR s) = false → ∃ σ' acc', (match fillB [some a, some (.tup s), some p, some (.ref r), some x, v] h with
          | .nx σ2 h2 => forL (gN 4) fillB l σ2 h2
          | .ct σ2 h2 => forL (gN 4) fillB l σ2 h2
          | .bk σ2 h2 => .nx σ2 h2
          | r => r) = .exc ⟨"Fallen", [("word", .str "out")]⟩ σ' (h.set r (.lst acc'))) := fun y e ey hi => by
      rw [e]
      have hr2 : (h.set r (.lst (acc ++ [y])))[r]? = some (.lst (acc ++ [y])) := List.getElem?_set_self hlt
      obtain ⟨g1, g2⟩ := loop_fill hn (s := s) (a := a) (p := p) l (some x) (some (.bl (tagd "e" x))) (h.set r (.lst (acc ++ [y]))) (acc ++ [y]) hr2 (fun e he => h1 e (List.mem_cons_of_mem _ he)) (fun e he => h2 e (List.mem_cons_of_mem _ he)) (by rw [List.length_append]; simp; omega)
      refine ⟨fun q => ?_, fun q => ?_⟩
      · obtain ⟨u', v', e'⟩ := g1 (by rw [List.all_cons, hi] at q; exact q)
        refine ⟨u', v', ?_⟩
        rw [List.set_set] at e'
        rw [List.map_cons, ← ey]
        rw [List.append_assoc] at e'
        exact e'
      · obtain ⟨σ', acc', e'⟩ := g2 (by rw [List.all_cons, hi] at q; exact q)
        refine ⟨σ', acc', ?_⟩
        rw [List.set_set] at e'
        exact e'
    cases ht : tagd "e" x with
    | false =>
      rw [ht] at et
      refine next x ?_ (by unfold fillF; rw [ht]; rfl) (by unfold inR; rw [ht]; rfl)
      rw [ht]
      simp [fillB, seqS, setS, et, R.toS, dropS, appL, R.bind, varE, il _ hr, la _ hr, ifE, valT, getR, hb]
    | true =>
      rw [ht] at et
      obtain ⟨c, d, rfl⟩ := tagd_pair ht
      obtain ⟨i, ed, _⟩ := kd0 (snd_ok hx ht) (h2 _ List.mem_cons_self ht)
      have ed' : d = .int i := ed
      subst ed'
      have a1 : L2.atI [c, .int i] 1 = some (.int i) := rfl
      by_cases hi : 0 ≤ i ∧ i < s.length
      · obtain ⟨y, ey, _⟩ := at_in hi.1 hi.2
        refine next (.tup [.str "c", y]) ?_ ?_ ?_
        · rw [ht]
          simp [fillB, seqS, setS, et, R.toS, dropS, appL, R.bind, varE, il _ hr, la _ hr, ifE, valT, getR, hb, tupE, consE, pureE, callF, opE, ixD, getO, a1, member_ok hi.1 hi.2 ey, sized]
        · unfold fillF
          rw [ht]
          show D.tup [D.str "c", y] = .tup [.str "c", (L2.atI s i).getD .non]
          rw [ey]
          rfl
        · unfold inR
          rw [ht]
          simp only [snd2, iv, Bool.not_true, Bool.false_or]
          exact decide_eq_true hi
      · have hin : inR s (.tup [c, .int i]) = false := by
          unfold inR
          rw [ht]
          simp only [snd2, iv, Bool.not_true, Bool.false_or]
          exact decide_eq_false hi
        refine ⟨fun q => ?_, fun _ => ⟨[some a, some (.tup s), some p, some (.ref r), some (.tup [c, .int i]), some (.bl true)], acc, ?_⟩⟩
        · rw [List.all_cons, hin] at q
          cases q
        · have same : h.set r (.lst acc) = h := List.ext_getElem? fun k => by
            by_cases hk : r = k
            · subst hk; rw [List.getElem?_set_self hlt, hr]
            · rw [List.getElem?_set_ne hk]
          rw [same]
          simp [fillB, seqS, setS, et, R.toS, dropS, appL, R.bind, varE, il _ hr, la _ hr, ifE, valT, getR, hb, tupE, consE, pureE, callF, opE, ixD, getO, a1, member_out hi, fal]
theorem fill_bad {n : Nat} {a b : D} {h : AH} (ha : Wd n a) (hb : Wd n b) (hc : ¬ (kd a = 2 ∧ kd b = 2)) : m_filled [a, b] h = fal "kind" h ∧ m__law_fill [a, b] h = .ok (Res.f "kind").l h := by
  have e1 : m_check_kinds [.lst [a, b], .int 2] h = fal "kind" h := by
    rw [chk2 ha hb, if_pos]
    by_cases h1 : kd a = 2
    · exact .inr fun z => hc ⟨h1, z⟩
    · exact .inl h1
  constructor
  · show (b_filled (startD 6 [a, b]) h).out = _
    unfold b_filled
    rw [seqS_exc (x := ⟨"Fallen", [("word", .str "kind")]⟩) (h1 := h)]
    · rfl
    · exact e1
  · show (b__law_fill (startD 5 [a, b]) h).out = _
    unfold b__law_fill
    rw [seq_ret]
    · kernel_rfl
    · by_cases h1 : kd a = 2
      · have h2 : kd b ≠ 2 := fun z => hc ⟨h1, z⟩
        simp [runF, startD, SR.out, retS, seqS, ifS, setS, dropS, nopS, R.toS, R.bind, pureE, consE, callE, callF, opE, unE, negD, chE, andE, orE, notE, ifE, valT, andT, orT, notT, un1, tupE, dispE, pureL, varE, sized, raiseF, fal, Res.p, Res.l, lkind_ok ha, lkind_ok hb, eqD_int, h1, h2]
      · simp [runF, startD, SR.out, retS, seqS, ifS, setS, dropS, nopS, R.toS, R.bind, pureE, consE, callE, callF, opE, unE, negD, chE, andE, orE, notE, ifE, valT, andT, orT, notT, un1, tupE, dispE, pureL, varE, sized, raiseF, fal, Res.p, Res.l, lkind_ok ha, eqD_int, h1]
/-- what the program does once both are lists -/
theorem fill_prog {n : Nat} {l s : List D} {h : AH} (hl : ∀ e ∈ l, Wd n e) (hn : n ≤ 60) (hz : l.length ≤ 5000) :
    (¬ (∀ e ∈ l, tagd "e" e = true → kd (snd2 e) = 0) → m_filled [.tup l, .tup s] h = fal "kind" h) ∧
    ((∀ e ∈ l, tagd "e" e = true → kd (snd2 e) = 0) → l.all (inR s) = false → ∃ g, m_filled [.tup l, .tup s] h = fal "out" (h ++ g)) ∧
    ((∀ e ∈ l, tagd "e" e = true → kd (snd2 e) = 0) → l.all (inR s) = true → ∃ g, m_filled [.tup l, .tup s] h = .ok (.tup (l.map (fillF s))) (h ++ g)) := by
  have e1 : m_check_kinds [.lst [.tup l, .tup s], .int 2] h = .ok .non h := by kernel_rfl
  have c1 : compE [4] (seqE (varE 0)) (gN 4) (andT (valT (opE (eqD false) (callF m_kind_of (consE (varE 4) (pureE []))) (pureE (.int 2)))) (andT (valT (opE (eqD false) (callE (un1 lenD) (consE (varE 4) (pureE []))) (pureE (.int 2)))) (valT (opE (eqD false) (opE ixD (varE 4) (pureE (.int 0))) (pureE (.str "e")))))) (opE ixD (varE 4) (pureE (.int 1))) [some (.tup l), some (.tup s), none, none, none, none] h = .ok ((l.filter (tagd "e")).map snd2) h :=
    comp_ok (l := l) (h1 := h) (seqE_ok (d := .tup l) rfl rfl) (by omega) (compL_filter (σg := fun d => [some (.tup l), some (.tup s), none, none, some d, none]) (fun d hd => rfl) (fun d hd => tag_T (fun h => kind_ok (hl d hd)) rfl (hl d hd) hn e_in) (fun d hd ht => by
      obtain ⟨c, e, rfl⟩ := tagd_pair ht
      rfl))
  have hpl : ∀ d ∈ (l.filter (tagd "e")).map snd2, Wd n d := fun d hd => by
    obtain ⟨e, he, rfl⟩ := List.mem_map.mp hd
    obtain ⟨he, ht⟩ := List.mem_filter.mp he
    exact snd_ok (hl e he) ht
  have hzl : ((l.filter (tagd "e")).map snd2).length ≤ 16777216 := by
    rw [List.length_map]
    have := List.length_filter_le (tagd "e") l
    omega
  have e2 := check_ok (k := 0) (h := h) hpl hzl
  have start : m_filled [.tup l, .tup s] h = (seqS (dropS (callF m_check_kinds (consE (varE 2) (consE (pureE (.int 0)) (pureE []))))) (seqS (setS 3 (newL (dispE (pureE [])))) (seqS (forS (seqE (varE 0)) (gN 4) fillB) (retS (callE (un1 tupC) (consE (varE 3) (pureE [])))))) [some (.tup l), some (.tup s), some (.lst ((l.filter (tagd "e")).map snd2)), none, none, none] h).out := by
    show (b_filled [some (.tup l), some (.tup s), none, none, none, none] h).out = _
    unfold b_filled
    rw [seqS_ok (d := .non) (h1 := h) (Eq.trans (b := m_check_kinds [.lst [.tup l, .tup s], .int 2] h) (by kernel_rfl) e1)]
    show SR.out (match setS 2 (pureL (compE [4] _ _ _ _)) _ h with
      | .nx σ1 h1 => _
      | r => r) = _
    simp only [setS, pureL, c1, R.bind, R.toS]
    rfl
  have anyIff : ((l.filter (tagd "e")).map snd2).any (fun d => decide (kd d ≠ 0)) = true ↔ ¬ (∀ e ∈ l, tagd "e" e = true → kd (snd2 e) = 0) := by
    rw [List.any_eq_true]
    constructor
    · rintro ⟨d, hd, hk⟩ z
      obtain ⟨e, he, rfl⟩ := List.mem_map.mp hd
      obtain ⟨he, ht⟩ := List.mem_filter.mp he
      exact of_decide_eq_true hk (z e he ht)
    · intro z
      false_or_by_contra
      rename_i hno
      refine z fun e he ht => ?_
      false_or_by_contra
      rename_i hk
      exact hno ⟨snd2 e, List.mem_map.mpr ⟨e, List.mem_filter.mpr ⟨he, ht⟩, rfl⟩, decide_eq_true hk⟩
  refine ⟨fun hc => ?_, fun hc hr => ?_, fun hc hr => ?_⟩
  · rw [if_pos (anyIff.mpr hc)] at e2
    rw [start, seqS_exc (x := ⟨"Fallen", [("word", .str "kind")]⟩) (h1 := h) e2]
    rfl
  all_goals
    rw [if_neg (fun z => anyIff.mp z hc)] at e2
    rw [start, seqS_ok (d := .non) (h1 := h) e2]
    obtain ⟨g1, g2⟩ := loop_fill hn (s := s) (a := .tup l) (p := .lst ((l.filter (tagd "e")).map snd2)) (r := h.length) l none none (h ++ [.lst []]) [] (by simp) hl hc (by simp; omega)
  · obtain ⟨σ', acc', e⟩ := g2 hr
    rw [set_new] at e
    refine ⟨[.lst acc'], ?_⟩
    simp [runF, startD, SR.out, retS, seqS, ifS, setS, dropS, nopS, R.toS, R.bind, pureE, consE, callE, callF, opE, unE, negD, chE, andE, orE, notE, ifE, valT, andT, orT, notT, un1, tupE, dispE, pureL, varE, sized, raiseF, fal, Res.p, Res.l, newL, forS, seqE, seqOf, e]
  · obtain ⟨u', v', e⟩ := g1 hr
    rw [set_new, List.nil_append] at e
    refine ⟨[.lst (l.map (fillF s))], ?_⟩
    simp [runF, startD, SR.out, retS, seqS, ifS, setS, dropS, nopS, R.toS, R.bind, pureE, consE, callE, callF, opE, unE, negD, chE, andE, orE, notE, ifE, valT, andT, orT, notT, un1, tupE, dispE, pureL, varE, sized, raiseF, fal, Res.p, Res.l, newL, forS, seqE, seqOf, e, tupC, getO, lstOf_new]
end RF

set_option maxRecDepth 100000
set_option maxHeartbeats 1000000
namespace RF
open PySem PySem.Spec
/-! ### fill, the law's own -/
def pIx : D → Int
  | .pr [.int i, _] => i
  | _ => 0
def pIt : D → D
  | .pr [_, x] => x
  | d => d
theorem enum_mem {l : List D} {k : Nat} {d : D} (h : d ∈ enumL k l) : ∃ i x, l[i]? = some x ∧ d = .pr [.int ((k + i : Nat) : Int), x] := by
  obtain ⟨i, hi, e⟩ := List.mem_iff_getElem.mp h
  obtain ⟨x, e1, e2⟩ := enumL_get l k i d (by rw [List.getElem?_eq_getElem hi, e])
  exact ⟨i, x, e1, e2⟩
theorem enum_in : ∀ {l : List D} {k i : Nat} {x : D}, l[i]? = some x → .pr [.int ((k + i : Nat) : Int), x] ∈ enumL k l
  | [], k, i, x, h => by simp at h
  | y :: l, k, 0, x, h => by
    simp at h
    subst h
    unfold enumL
    exact List.mem_cons_self
  | y :: l, k, i + 1, x, h => by
    simp at h
    unfold enumL
    have := enum_in (k := k + 1) h
    have e : k + 1 + i = k + (i + 1) := by omega
    rw [e] at this
    exact List.mem_cons_of_mem _ this
theorem enum_map {f : D → D} : ∀ (l : List D) (k : Nat), (enumL k l).map (fun d => f (pIt d)) = l.map f
  | [], _ => rfl
  | x :: l, k => by
    unfold enumL
    rw [List.map_cons, List.map_cons, enum_map l (k + 1)]
    rfl
def spots (l : List D) : List D := ((enumL 0 l).filter fun d => tagd "e" (pIt d)).map fun d => .int (pIx d)
theorem spots_mem {l : List D} {d : D} (h : d ∈ spots l) : ∃ i x, l[i]? = some x ∧ tagd "e" x = true ∧ d = .int (i : Nat) := by
  unfold spots at h
  obtain ⟨e, he, rfl⟩ := List.mem_map.mp h
  obtain ⟨he, ht⟩ := List.mem_filter.mp he
  obtain ⟨i, x, e1, rfl⟩ := enum_mem he
  exact ⟨i, x, e1, ht, by simp [pIx]⟩
theorem spots_in {l : List D} {i : Nat} {x : D} (e : l[i]? = some x) (ht : tagd "e" x = true) : .int (i : Nat) ∈ spots l := by
  unfold spots
  refine List.mem_map.mpr ⟨.pr [.int (i : Nat), x], List.mem_filter.mpr ⟨?_, ht⟩, rfl⟩
  have := enum_in (k := 0) e
  simpa using this
theorem at_nat {l : List D} {i : Nat} {x : D} (e : l[i]? = some x) : L2.atI l (i : Int) = some x := by
  obtain ⟨hi, _⟩ := List.getElem?_eq_some_iff.mp e
  unfold L2.atI L2.ixN
  rw [if_pos (by omega), if_pos (by omega)]
  simpa using e
theorem enumE_ok {m : E1 D} {σ : SL} {h : AH} {l : List D} (e : m σ h = .ok (.tup l) h) : enumE' m σ h = .ok (enumL 0 l) h := by
  unfold enumE'
  rw [e]
  rfl
theorem spots_any {l : List D} {i : Nat} {x : D} (e : l[i]? = some x) : ((spots l).map Pd).any (fun z => PyData.eqv z (.int (i : Nat))) = tagd "e" x := by
  cases ht : tagd "e" x with
  | true =>
    rw [List.any_eq_true]
    exact ⟨.int (i : Nat), List.mem_map.mpr ⟨_, spots_in e ht, rfl⟩, by simp [PyData.eqv]⟩
  | false =>
    rw [List.any_eq_false]
    intro z hz
    obtain ⟨d, hd, rfl⟩ := List.mem_map.mp hz
    obtain ⟨j, y, e2, ht2, rfl⟩ := spots_mem hd
    show ¬ PyData.eqv (.int (j : Nat)) (.int (i : Nat)) = true
    intro q
    have hji : j = i := by
      have : ((j : Nat) : Int) = (i : Nat) := by simpa [PyData.eqv] using q
      omega
    subst hji
    rw [e] at e2
    cases e2
    rw [ht] at ht2
    cases ht2
theorem pys_ints : ∀ {l : List D}, (∀ d ∈ l, ∃ i : Int, d = .int i) → toPys0 l = some (l.map Pd)
  | [], _ => rfl
  | d :: l, h => by
    obtain ⟨i, rfl⟩ := h d List.mem_cons_self
    unfold toPys0
    rw [pys_ints fun e he => h e (List.mem_cons_of_mem _ he)]
    rfl
theorem spots_py {l : List D} {h : AH} : toPy h (.lst (spots l)) = some (.list ((spots l).map Pd)) := by
  show toPy0 _ = _
  unfold toPy0
  rw [pys_ints fun d hd => let ⟨i, _, _, _, e⟩ := spots_mem hd; ⟨_, e⟩]
  rfl
theorem in_spots {l : List D} {i : Nat} {x : D} {h : AH} (e : l[i]? = some x) : inD false (.int (i : Nat)) (.lst (spots l)) h = .ok (.bl (tagd "e" x)) h := by
  show (match toPy h (.int (i : Nat)), toPy h (.lst (spots l)) with
    | some d, some (.list ds) => if Nat.ble (min (PyData.depthAll ds) d.depth) 64 then R.ok (D.bl (false ^^ ds.any fun z => PyData.eqv z d)) h else .stuck
    | some d, some (.tuple ds) => if Nat.ble (min (PyData.depthAll ds) d.depth) 64 then R.ok (D.bl (false ^^ ds.any fun z => PyData.eqv z d)) h else .stuck
    | _, _ => .stuck) = _
  rw [spots_py]
  show (if Nat.ble (min (PyData.depthAll ((spots l).map Pd)) 0) 64 then R.ok (D.bl (false ^^ ((spots l).map Pd).any fun z => PyData.eqv z (.int (i : Nat)))) h else .stuck) = _
  rw [Nat.min_zero, spots_any e]
  simp
theorem spots_len {l : List D} : (spots l).length ≤ l.length := by
  unfold spots
  rw [List.length_map]
  have := List.length_filter_le (fun d => tagd "e" (pIt d)) (enumL 0 l)
  rw [enumL_length] at this
  exact this
theorem fill_law {n : Nat} {l s : List D} {h : AH} (hl : ∀ e ∈ l, Wd n e) (hn : n ≤ 60) (hz : l.length ≤ 5000) :
    (¬ (∀ e ∈ l, tagd "e" e = true → kd (snd2 e) = 0) → m__law_fill [.tup l, .tup s] h = .ok (Res.f "kind").l h) ∧
    ((∀ e ∈ l, tagd "e" e = true → kd (snd2 e) = 0) → l.all (inR s) = false → m__law_fill [.tup l, .tup s] h = .ok (Res.f "out").l h) ∧
    ((∀ e ∈ l, tagd "e" e = true → kd (snd2 e) = 0) → l.all (inR s) = true → m__law_fill [.tup l, .tup s] h = .ok (Res.w (.tup (l.map (fillF s)))).l h) := by
  have k1 : m__law_kind [.tup l] h = .ok (.int 2) h := by kernel_rfl
  have k2 : m__law_kind [.tup s] h = .ok (.int 2) h := by kernel_rfl
  have c1 : compE [3, 4] (enumE' (varE 0)) (gTu [(gN 3), (gN 4)]) (andT (valT (opE (eqD false) (callF m__law_kind (consE (varE 4) (pureE []))) (pureE (.int 2)))) (andT (valT (opE (eqD false) (callE (un1 lenD) (consE (varE 4) (pureE []))) (pureE (.int 2)))) (valT (opE (eqD false) (opE ixD (varE 4) (pureE (.int 0))) (pureE (.str "e")))))) (varE 3) [some (.tup l), some (.tup s), none, none, none] h = .ok (spots l) h := by
    refine comp_ok (l := enumL 0 l) (h1 := h) (enumE_ok rfl) (by rw [enumL_length]; omega) ?_
    refine compL_filter (σg := fun d => [some (.tup l), some (.tup s), none, some (.int (pIx d)), some (pIt d)]) (fun d hd => ?_) (fun d hd => ?_) (fun d hd ht => ?_)
    · obtain ⟨i, x, e, rfl⟩ := enum_mem hd
      rfl
    · obtain ⟨i, x, e, rfl⟩ := enum_mem hd
      have hx := hl x (List.mem_of_getElem? e)
      exact tag_T (fun h => lkind_ok hx) rfl hx hn e_in
    · obtain ⟨i, x, e, rfl⟩ := enum_mem hd
      rfl
  have zsp : (spots l).length ≤ 16777216 := by have := spots_len (l := l); omega
  -- a[at][1] behind a spot
  have fld : ∀ (d : D), d ∈ spots l → ∃ x, x ∈ l ∧ tagd "e" x = true ∧ ∀ (h : AH), opE ixD (opE ixD (varE 0) (varE 3)) (pureE (.int 1)) [some (.tup l), some (.tup s), some (.lst (spots l)), some d, none] h = .ok (snd2 x) h := fun d hd => by
    obtain ⟨i, x, e, ht, rfl⟩ := spots_mem hd
    refine ⟨x, List.mem_of_getElem? e, ht, fun h => ?_⟩
    obtain ⟨c, y, rfl⟩ := tagd_pair ht
    have a1 : L2.atI [c, y] 1 = some y := rfl
    simp [opE, varE, R.bind, ixD, getO, at_nat e, pureE, a1, snd2]
  have hfx : ∀ d, ∃ x, d ∈ spots l → x ∈ l ∧ tagd "e" x = true ∧ ∀ (h : AH), opE ixD (opE ixD (varE 0) (varE 3)) (pureE (.int 1)) [some (.tup l), some (.tup s), some (.lst (spots l)), some d, none] h = .ok (snd2 x) h := fun d => by
    by_cases hd : d ∈ spots l
    · obtain ⟨x, q⟩ := fld d hd
      exact ⟨x, fun _ => q⟩
    · exact ⟨.non, fun z => absurd z hd⟩
  obtain ⟨X, hX⟩ := Classical.axiomOfChoice hfx
  have c2 : compE [3] (seqE (varE 2)) (gN 3) yesE (opE (eqD false) (callF m__law_kind (consE (opE ixD (opE ixD (varE 0) (varE 3)) (pureE (.int 1))) (pureE []))) (pureE (.int 0))) [some (.tup l), some (.tup s), some (.lst (spots l)), none, none] h = .ok ((spots l).map fun d => .bl (decide (kd (snd2 (X d)) = 0))) h := by
    refine comp_ok (l := spots l) (h1 := h) (seqE_ok (d := .lst (spots l)) rfl rfl) zsp ?_
    refine compL_map (σg := fun d => [some (.tup l), some (.tup s), some (.lst (spots l)), some d, none]) (fun d hd => rfl) (fun d hd => rfl) (fun d hd => ?_)
    obtain ⟨hx, ht, e⟩ := hX d hd
    have e' := lkind_ok (h := h) (snd_ok (hl _ hx) ht)
    have e0 := e h
    generalize (opE ixD (opE ixD (varE 0) (varE 3)) (pureE (.int 1))) = M at e0 ⊢
    simp [opE, callF, consE, R.bind, e0, pureE, e', eqD_int]
  have c3 : compE [3] (seqE (varE 2)) (gN 3) yesE (chE (intD leF) (intD ltF) (pureE (.int 0)) (opE ixD (opE ixD (varE 0) (varE 3)) (pureE (.int 1))) (callE (un1 lenD) (consE (varE 1) (pureE [])))) [some (.tup l), some (.tup s), some (.lst (spots l)), none, none] h = .ok ((spots l).map fun d => .bl (inR s (X d))) h ∨ ¬ (∀ e ∈ l, tagd "e" e = true → kd (snd2 e) = 0) := by
    by_cases hc : ∀ e ∈ l, tagd "e" e = true → kd (snd2 e) = 0
    · left
      refine comp_ok (l := spots l) (h1 := h) (seqE_ok (d := .lst (spots l)) rfl rfl) zsp ?_
      refine compL_map (σg := fun d => [some (.tup l), some (.tup s), some (.lst (spots l)), some d, none]) (fun d hd => rfl) (fun d hd => rfl) (fun d hd => ?_)
      obtain ⟨hx, ht, e⟩ := hX d hd
      obtain ⟨i, ei, _⟩ := kd0 (snd_ok (hl _ hx) ht) (hc _ hx ht)
      have eR : inR s (X d) = decide (0 ≤ i ∧ i < s.length) := by unfold inR; rw [ht, ei]; rfl
      rw [eR]
      have e0 := e h
      rw [ei] at e0
      generalize (opE ixD (opE ixD (varE 0) (varE 3)) (pureE (.int 1))) = M at e0 ⊢
      by_cases h0 : 0 ≤ i <;> by_cases h1 : i < s.length <;> simp [chE, e0, R.bind, pureE, intD, leF, ltF, h0, h1, callE, consE, varE, un1, lenD]
    · exact .inr hc
  have start : m__law_fill [.tup l, .tup s] h = (seqS (ifS (notT (valT (callE (un1 (allC false)) (consE (pureL (compE [3] (seqE (varE 2)) (gN 3) yesE (opE (eqD false) (callF m__law_kind (consE (opE ixD (opE ixD (varE 0) (varE 3)) (pureE (.int 1))) (pureE []))) (pureE (.int 0))))) (pureE []))))) (retS (tupE (consE (pureE (.str "fall")) (consE (pureE (.str "kind")) (pureE []))))) nopS) (seqS (ifS (notT (valT (callE (un1 (allC false)) (consE (pureL (compE [3] (seqE (varE 2)) (gN 3) yesE (chE (intD leF) (intD ltF) (pureE (.int 0)) (opE ixD (opE ixD (varE 0) (varE 3)) (pureE (.int 1))) (callE (un1 lenD) (consE (varE 1) (pureE [])))))) (pureE []))))) (retS (tupE (consE (pureE (.str "fall")) (consE (pureE (.str "out")) (pureE []))))) nopS) (retS (tupE (consE (pureE (.str "worth")) (consE (callE (un1 tupC) (consE (pureL (compE [3, 4] (enumE' (varE 0)) (gTu [(gN 3), (gN 4)]) yesE (ifE (valT (opE (inD false) (varE 3) (varE 2))) (tupE (consE (pureE (.str "c")) (consE (opE ixD (varE 1) (opE ixD (varE 4) (pureE (.int 1)))) (pureE [])))) (varE 4)))) (pureE []))) (pureE []))))))
      [some (.tup l), some (.tup s), some (.lst (spots l)), none, none] h).out := by
    show (b__law_fill [some (.tup l), some (.tup s), none, none, none] h).out = _
    unfold b__law_fill
    rw [seq_skip (by simp [runF, startD, SR.out, retS, seqS, ifS, setS, dropS, nopS, R.toS, R.bind, pureE, consE, callE, callF, opE, unE, negD, chE, andE, orE, notE, ifE, valT, andT, orT, notT, un1, tupE, dispE, pureL, varE, sized, raiseF, fal, Res.p, Res.l, k1, k2, eqD_int])]
    show SR.out (match setS 2 (pureL (compE [3, 4] _ _ _ _)) _ h with
      | .nx σ1 h1 => _
      | r => r) = _
    simp only [setS, pureL, c1, R.bind, R.toS]
    rfl
  have t2 : (notT (valT (callE (un1 (allC false)) (consE (pureL (compE [3] (seqE (varE 2)) (gN 3) yesE (opE (eqD false) (callF m__law_kind (consE (opE ixD (opE ixD (varE 0) (varE 3)) (pureE (.int 1))) (pureE []))) (pureE (.int 0))))) (pureE []))))) [some (.tup l), some (.tup s), some (.lst (spots l)), none, none] h = .ok (!((spots l).all fun d => decide (kd (snd2 (X d)) = 0))) h := by
    simp only [notT, valT, callE, consE, pureL, c2, R.bind, pureE, un1, allC, lstOf, Option.bind, blsOf_map, getO, if_true, List.all_map]
    rfl
  have allIff : ((spots l).all fun d => decide (kd (snd2 (X d)) = 0)) = true ↔ (∀ e ∈ l, tagd "e" e = true → kd (snd2 e) = 0) := by
    rw [List.all_eq_true]
    constructor
    · intro z e he ht
      obtain ⟨i, hi, ei⟩ := List.mem_iff_getElem.mp he
      have eg : l[i]? = some e := by rw [List.getElem?_eq_getElem hi, ei]
      have hm := spots_in eg ht
      have q := of_decide_eq_true (z _ hm)
      obtain ⟨_, _, e1⟩ := hX _ hm
      have e1 := e1 h
      have e2 : opE ixD (opE ixD (varE 0) (varE 3)) (pureE (.int 1)) [some (.tup l), some (.tup s), some (.lst (spots l)), some (.int (i : Nat)), none] h = .ok (snd2 e) h := by
        obtain ⟨c, y, rfl⟩ := tagd_pair ht
        have a1 : L2.atI [c, y] 1 = some y := rfl
        simp [opE, varE, R.bind, ixD, getO, at_nat eg, pureE, a1, snd2]
      rw [e1] at e2
      injection e2 with e3 _
      rw [← e3]; exact q
    · intro z d hd
      obtain ⟨hx, ht, _⟩ := hX d hd
      exact decide_eq_true (z _ hx ht)
  refine ⟨fun hc => ?_, fun hc hr => ?_, fun hc hr => ?_⟩
  · have hf : ((spots l).all fun d => decide (kd (snd2 (X d)) = 0)) = false := by
      cases q : ((spots l).all fun d => decide (kd (snd2 (X d)) = 0)) with
      | true => exact absurd (allIff.mp q) hc
      | false => rfl
    rw [hf] at t2
    rw [start, seq_ret t2]
    kernel_rfl
  all_goals
    rw [allIff.mpr hc] at t2
    rw [start, seq_skip t2]
    have c3 := c3.resolve_right fun z => z hc
    have t3 : (notT (valT (callE (un1 (allC false)) (consE (pureL (compE [3] (seqE (varE 2)) (gN 3) yesE (chE (intD leF) (intD ltF) (pureE (.int 0)) (opE ixD (opE ixD (varE 0) (varE 3)) (pureE (.int 1))) (callE (un1 lenD) (consE (varE 1) (pureE [])))))) (pureE []))))) [some (.tup l), some (.tup s), some (.lst (spots l)), none, none] h = .ok (!((spots l).all fun d => inR s (X d))) h := by
      simp only [notT, valT, callE, consE, pureL, c3, R.bind, pureE, un1, allC, lstOf, Option.bind, blsOf_map, getO, if_true, List.all_map]
      rfl
    have all2 : ((spots l).all fun d => inR s (X d)) = l.all (inR s) := by
      rw [Bool.eq_iff_iff, List.all_eq_true, List.all_eq_true]
      constructor
      · intro z e he
        cases ht : tagd "e" e with
        | false => unfold inR; rw [ht]; rfl
        | true =>
          obtain ⟨i, hi, ei⟩ := List.mem_iff_getElem.mp he
          have eg : l[i]? = some e := by rw [List.getElem?_eq_getElem hi, ei]
          have hm := spots_in eg ht
          have q := z _ hm
          obtain ⟨_, ht1, e1⟩ := hX _ hm
          have e1 := e1 h
          have e2 : opE ixD (opE ixD (varE 0) (varE 3)) (pureE (.int 1)) [some (.tup l), some (.tup s), some (.lst (spots l)), some (.int (i : Nat)), none] h = .ok (snd2 e) h := by
            obtain ⟨c, y, rfl⟩ := tagd_pair ht
            have a1 : L2.atI [c, y] 1 = some y := rfl
            simp [opE, varE, R.bind, ixD, getO, at_nat eg, pureE, a1, snd2]
          rw [e1] at e2
          injection e2 with e3 _
          unfold inR at q ⊢
          rw [ht, ← e3]
          rw [ht1] at q
          exact q
      · intro z d hd
        obtain ⟨hx, _, _⟩ := hX d hd
        exact z _ hx
    rw [all2] at t3
  · rw [hr] at t3
    rw [seq_ret t3]
    kernel_rfl
  · rw [hr] at t3
    rw [seq_skip t3, last_ret]
    have c4 : compE [3, 4] (enumE' (varE 0)) (gTu [(gN 3), (gN 4)]) yesE (ifE (valT (opE (inD false) (varE 3) (varE 2))) (tupE (consE (pureE (.str "c")) (consE (opE ixD (varE 1) (opE ixD (varE 4) (pureE (.int 1)))) (pureE [])))) (varE 4)) [some (.tup l), some (.tup s), some (.lst (spots l)), none, none] h = .ok ((enumL 0 l).map fun d => fillF s (pIt d)) h := by
      refine comp_ok (l := enumL 0 l) (h1 := h) (enumE_ok rfl) (by rw [enumL_length]; omega) ?_
      refine compL_map (σg := fun d => [some (.tup l), some (.tup s), some (.lst (spots l)), some (.int (pIx d)), some (pIt d)]) (fun d hd => ?_) (fun d hd => rfl) (fun d hd => ?_)
      · obtain ⟨i, x, e, rfl⟩ := enum_mem hd
        rfl
      · obtain ⟨i, x, e, rfl⟩ := enum_mem hd
        have hxm := List.mem_of_getElem? e
        have q := in_spots (h := h) e
        have ei : pIx (.pr [.int ((0 + i : Nat) : Int), x]) = (i : Nat) := by simp [pIx]
        have ex : pIt (.pr [.int ((0 + i : Nat) : Int), x]) = x := rfl
        simp only [ei, ex]
        cases ht : tagd "e" x with
        | false =>
          rw [ht] at q
          simp [ifE, valT, opE, varE, R.bind, q, fillF, ht]
        | true =>
          rw [ht] at q
          obtain ⟨k, ek, _⟩ := kd0 (snd_ok (hl x hxm) ht) (hc x hxm ht)
          have hin := List.all_eq_true.mp hr x hxm
          unfold inR at hin
          rw [ht, ek] at hin
          have hin2 : 0 ≤ k ∧ k < s.length := of_decide_eq_true hin
          obtain ⟨y, ey, _⟩ := at_in hin2.1 hin2.2
          obtain ⟨c, y2, rfl⟩ := tagd_pair ht
          have ek' : y2 = .int k := ek
          subst ek'
          have a1 : L2.atI [c, .int k] 1 = some (.int k) := rfl
          simp [ifE, valT, opE, varE, R.bind, q, fillF, ht, tupE, consE, pureE, ixD, getO, a1, ey, sized, snd2, iv]
    rw [enum_map (f := fillF s)] at c4
    simp only [tupE, consE, callE, pureL, c4, R.bind, pureE, un1, tupC, lstOf, getO]
    rfl
theorem ag_fill {n j k : Nat} {a b : D} (ha : Wd n a) (hb : Wd n b) (hn : n ≤ 30) : Ag (l_told_by (j + 2)) (l__law_deed (k + 1)) [.str "fill", a, b] := by
  by_cases hc : kd a = 2 ∧ kd b = 2
  · obtain ⟨m, l, hm, rfl, hz, hl⟩ := kd2 ha hc.1
    obtain ⟨m2, s, hm2, rfl, _, hs⟩ := kd2 hb hc.2
    by_cases h1 : ∀ e ∈ l, tagd "e" e = true → kd (snd2 e) = 0
    · cases h2 : l.all (inR s) with
      | true =>
        refine ⟨.w (.tup (l.map (fillF s))), Py.mono (Py.tup (m := 31) fun e he => ?_) (by omega), fun h => ?_, nopL fun h => by rw [ldeed_fill]; exact (fill_law hl (by omega) hz).2.2 h1 h2⟩
        · obtain ⟨x, hx, rfl⟩ := List.mem_map.mp he
          unfold fillF
          cases ht : tagd "e" x with
          | false => exact Py.mono (hl x hx).Py (by omega)
          | true =>
            refine Py.tup (m := 30) (l := [_, _]) fun e he => ?_
            simp at he
            rcases he with rfl | rfl
            · exact Py.str (by decide +kernel)
            · have hin := List.all_eq_true.mp h2 x hx
              unfold inR at hin
              rw [ht] at hin
              have hin2 : 0 ≤ iv (snd2 x) ∧ iv (snd2 x) < s.length := of_decide_eq_true hin
              obtain ⟨y, ey, hy⟩ := at_in hin2.1 hin2.2
              rw [ey]
              exact Py.mono (hs y hy).Py (by omega)
        · rw [told_eq mk_fill, made_fill]
          exact (fill_prog hl (by omega) hz).2.2 h1 h2
      | false => exact ⟨.f "out", ok_out, fun h => by rw [told_eq mk_fill, made_fill]; exact (fill_prog hl (by omega) hz).2.1 h1 h2, nopL fun h => by rw [ldeed_fill]; exact (fill_law hl (by omega) hz).2.1 h1 h2⟩
    · exact ⟨.f "kind", ok_kind, nopP fun h => by rw [told_eq mk_fill, made_fill]; exact (fill_prog hl (by omega) hz).1 h1, nopL fun h => by rw [ldeed_fill]; exact (fill_law hl (by omega) hz).1 h1⟩
  · exact ⟨.f "kind", ok_kind, nopP fun h => by rw [told_eq mk_fill, made_fill]; exact (fill_bad ha hb hc).1, nopL fun h => by rw [ldeed_fill]; exact (fill_bad ha hb hc).2⟩
end RF

set_option maxRecDepth 100000
set_option maxHeartbeats 1000000
namespace RF
open PySem PySem.Spec
theorem deeds_okw {x : Str} (h : x ∈ deeds) : x ∈ okw := by
  have : ∀ x ∈ deeds, x ∈ okw := by decide +kernel
  exact this x h
theorem strs_any {x : Str} : ∀ (l : List Str), (∀ y ∈ l, y ∈ okw) → (Pds (l.map D.str)).any (fun z => PyData.eqv z (.str x)) = decide (x ∈ l)
  | [], _ => by simp [Pds]
  | y :: l, h => by
    have ih := strs_any (x := x) l fun z hz => h z (List.mem_cons_of_mem _ hz)
    have e : Pd (.str y) = .str y := by
      unfold Pd toPy0
      rw [if_pos (okw_ok (h y List.mem_cons_self))]
      rfl
    unfold Pds at ih ⊢
    rw [List.map_cons, List.map_cons, List.any_cons, ih, e]
    have e2 : PyData.eqv (.str y) (.str x) = decide (x = y) := by
      rw [Bool.eq_iff_iff]
      simp [PyData.eqv]
      exact ⟨fun z => z.symm, fun z => z.symm⟩
    rw [e2]
    by_cases hx : x = y <;> simp [hx]
theorem pd_str {x : Str} (hx : x ∈ okw) : Pd (.str x) = .str x := by
  unfold Pd toPy0
  rw [if_pos (okw_ok hx)]
  rfl
theorem c_deeds : c_DEEDS = .tup (deeds.map D.str) := by kernel_rfl
theorem in_deeds {b : Bool} {x : Str} {h : AH} (hx : x ∈ okw) : inD b (.str x) c_DEEDS h = .ok (.bl (b ^^ decide (x ∈ deeds))) h := by
  rw [c_deeds, inD_tup (n := 0) (m := 0) (Wd.str hx) (fun e he => by
    obtain ⟨y, hy, rfl⟩ := List.mem_map.mp he
    exact Wd.str (deeds_okw hy)) (by omega), pd_str hx, strs_any deeds fun y hy => deeds_okw hy]
theorem words_ok {h : AH} : m__law_words [] h = .ok (.lst (deeds.map D.str)) h := by kernel_rfl
theorem in_words {b : Bool} {x : Str} {h : AH} (hx : x ∈ okw) : inD b (.str x) (.lst (deeds.map D.str)) h = .ok (.bl (b ^^ decide (x ∈ deeds))) h := by
  have e1 : toPy h (.str x) = some (.str x) := by
    show toPy0 _ = _
    unfold toPy0
    rw [if_pos (okw_ok hx)]
  have e3 : toPy h (.lst (deeds.map D.str)) = some (.list (Pds (deeds.map D.str))) := by
    show toPy0 _ = _
    unfold toPy0
    rw [Pys_ok (n := 0) fun e he => by
      obtain ⟨y, hy, rfl⟩ := List.mem_map.mp he
      exact Wd.str (deeds_okw hy)]
    rfl
  show (match toPy h (.str x), toPy h (.lst (deeds.map D.str)) with
    | some d, some (.list ds) => if Nat.ble (min (PyData.depthAll ds) d.depth) 64 then R.ok (D.bl (b ^^ ds.any fun z => PyData.eqv z d)) h else .stuck
    | some d, some (.tuple ds) => if Nat.ble (min (PyData.depthAll ds) d.depth) 64 then R.ok (D.bl (b ^^ ds.any fun z => PyData.eqv z d)) h else .stuck
    | _, _ => .stuck) = _
  rw [e1, e3]
  show (if Nat.ble (min (PyData.depthAll (Pds (deeds.map D.str))) 0) 64 then R.ok (D.bl (b ^^ (Pds (deeds.map D.str)).any fun z => PyData.eqv z (.str x))) h else .stuck) = _
  rw [Nat.min_zero, strs_any deeds fun y hy => deeds_okw hy]
  rfl
/-- two operands, filled -/
def opsOk : D → Bool
  | .tup [p, q] => tagd "c" p && tagd "c" q
  | _ => false
theorem opsOk_pair {b : D} (h : opsOk b = true) : ∃ p q, b = .tup [p, q] ∧ tagd "c" p = true ∧ tagd "c" q = true := by
  match b, h with
  | .tup [p, q], h =>
    have h' : (tagd "c" p && tagd "c" q) = true := h
    rw [Bool.and_eq_true] at h'
    exact ⟨p, q, rfl, h'.1, h'.2⟩
theorem opsOk_len {l : List D} (h : l.length ≠ 2) : opsOk (.tup l) = false := by
  match l, h with
  | [], _ => rfl
  | [_], _ => rfl
  | [_, _], h => exact absurd rfl h
  | _ :: _ :: _ :: _, _ => rfl
abbrev opsC : E1 D := andE (opE (eqD false) (callF m_kind_of (consE (varE 1) (pureE []))) (pureE (.int 2))) (andE (opE (eqD false) (callE (un1 lenD) (consE (varE 1) (pureE []))) (pureE (.int 2))) (opE (eqD false) (opE ixD (varE 1) (pureE (.int 0))) (pureE (.str "c"))))
theorem operands_eq {n : Nat} {b : D} {h : AH} (hb : Wd n b) (hn : n ≤ 60) : m_operands_of [b] h = if opsOk b then .ok (.tup [snd2 ((b |> fun | .tup (p :: _) => p | d => d)), snd2 ((b |> fun | .tup (_ :: q :: _) => q | d => d))]) h else fal "kind" h := by
  by_cases hc : kd b = 2
  · obtain ⟨m, l, hm, rfl, hz, hl⟩ := kd2 hb hc
    have e1 : m_check_kinds [.lst [.tup l], .int 2] h = .ok .non h := by kernel_rfl
    show (b_operands_of [some (.tup l), none] h).out = _
    unfold b_operands_of
    rw [seqS_ok (d := .non) (h1 := h) e1]
    by_cases h2 : l.length = 2
    · obtain ⟨p, q, rfl⟩ := two_of h2
      have c1 : compE [1] (seqE (varE 0)) (gN 1) yesE opsC [some (.tup [p, q]), none] h = .ok ([p, q].map fun d => .bl (tagd "c" d)) h :=
        comp_ok (l := [p, q]) (h1 := h) (seqE_ok (d := .tup [p, q]) rfl rfl) (by simp) (compL_map (σg := fun d => [some (.tup [p, q]), some d]) (fun d hd => rfl) (fun d hd => rfl) (fun d hd => tag_E (fun h => kind_ok (hl d hd)) rfl (hl d hd) (by omega) c_in))
      have t1 : (orT (valT (opE (eqD true) (callE (un1 lenD) (consE (varE 0) (pureE []))) (pureE (.int 2)))) (notT (valT (callE (un1 (allC false)) (consE (pureL (compE [1] (seqE (varE 0)) (gN 1) yesE opsC)) (pureE [])))))) [some (.tup [p, q]), none] h = .ok (!(tagd "c" p && tagd "c" q)) h := by
        have t0 : (valT (opE (eqD true) (callE (un1 lenD) (consE (varE 0) (pureE []))) (pureE (.int 2)))) [some (.tup [p, q]), none] h = .ok false h := by kernel_rfl
        have tA : (valT (callE (un1 (allC false)) (consE (pureL (compE [1] (seqE (varE 0)) (gN 1) yesE opsC)) (pureE [])))) [some (.tup [p, q]), none] h = .ok (tagd "c" p && tagd "c" q) h := by
          simp only [valT, callE, consE, pureL, c1, R.bind, pureE, un1, allC, lstOf, Option.bind, blsOf_map, getO]
          simp
        unfold orT notT
        rw [t0]
        simp only [R.bind, tA]
        rfl
      cases e : (tagd "c" p && tagd "c" q) with
      | true =>
        rw [e] at t1
        rw [seq_skip t1, last_ret]
        have ho : opsOk (.tup [p, q]) = true := e
        rw [if_pos ho]
        rw [Bool.and_eq_true] at e
        obtain ⟨c1, d1, rfl⟩ := tagd_pair e.1
        obtain ⟨c2, d2, rfl⟩ := tagd_pair e.2
        rfl
      | false =>
        rw [e] at t1
        have ho : ¬ opsOk (.tup [p, q]) = true := by
          show ¬ (tagd "c" p && tagd "c" q) = true
          rw [e]; exact Bool.false_ne_true
        rw [if_neg ho]
        simp only [seqS, ifS, t1, R.toS]
        rfl
    · have h2' : ¬ (l.length : Int) = 2 := by omega
      rw [opsOk_len h2, if_neg Bool.false_ne_true]
      have t1 : (orT (valT (opE (eqD true) (callE (un1 lenD) (consE (varE 0) (pureE []))) (pureE (.int 2)))) (notT (valT (callE (un1 (allC false)) (consE (pureL (compE [1] (seqE (varE 0)) (gN 1) yesE opsC)) (pureE [])))))) [some (.tup l), none] h = .ok true h := by
        simp [orT, valT, opE, callE, consE, varE, R.bind, pureE, un1, lenD, eqD_int, h2']
      simp only [seqS, ifS, t1, R.toS]
      rfl
  · have e1 : m_check_kinds [.lst [b], .int 2] h = fal "kind" h := by rw [chk1 hb, if_pos hc]
    have ho : opsOk b = false := by
      rcases hb.cases with ⟨i, rfl, _⟩ | ⟨x, rfl, _⟩ | ⟨m, l, _, rfl, _⟩
      · rfl
      · rfl
      · exact absurd rfl hc
    rw [ho, if_neg Bool.false_ne_true]
    show (b_operands_of [some b, none] h).out = _
    unfold b_operands_of
    rw [seqS_exc (x := ⟨"Fallen", [("word", .str "kind")]⟩) (h1 := h) e1]
    rfl
theorem kd_str {x : Str} : kd (.str x) = 1 := rfl
theorem kd_tup {l : List D} : kd (.tup l) = 2 := rfl
/-! ### do, falls -/
/-- what the word told falls to, of do and of falls -/
def refl (isDo : Bool) (r : Res) : Res := if isDo then r else match r with
  | .w _ => .w (.int 0)
  | .f x => .w (.str x)
theorem refl_bad {j n : Nat} {a b : D} {h : AH} {x : Str} (ha : Wd n a) (hb : Wd n b) (hn : n ≤ 60) (hc : ¬ ((∃ y ∈ deeds, a = .str y) ∧ opsOk b = true)) : l_reflected (j + 1) [.str x, a, b] h = fal "kind" h := by
  show (b_reflected (l_reflected j) (l_made_by j) (l_told_by j) [some (.str x), some a, some b, none, none, none] h).out = _
  unfold b_reflected
  by_cases hk : kd a = 1
  · obtain ⟨y, rfl, hy⟩ := kd1 ha hk
    by_cases hd : y ∈ deeds
    · have ho : opsOk b = false := by
        cases q : opsOk b with
        | true => exact absurd ⟨⟨y, hd, rfl⟩, q⟩ hc
        | false => rfl
      have t1 : (orT (valT (opE (eqD true) (callF m_kind_of (consE (varE 1) (pureE []))) (pureE (.int 1)))) (valT (opE (inD true) (varE 1) (pureE c_DEEDS)))) [some (.str x), some (.str y), some b, none, none, none] h = .ok false h := by
        have q := in_deeds (b := true) (h := h) hy
        simp [runF, startD, SR.out, retS, seqS, ifS, setS, dropS, nopS, R.toS, R.bind, pureE, consE, callE, callF, opE, unE, negD, chE, andE, orE, notE, ifE, valT, andT, orT, notT, un1, tupE, dispE, pureL, varE, sized, raiseF, fal, Res.p, Res.l, kind_ok ha, eqD_int, kd_str, kd_tup, q, hd]
      rw [seq_skip t1]
      have e := operands_eq (h := h) hb hn
      rw [ho, if_neg Bool.false_ne_true] at e
      simp [runF, startD, SR.out, retS, seqS, ifS, setS, dropS, nopS, R.toS, R.bind, pureE, consE, callE, callF, opE, unE, negD, chE, andE, orE, notE, ifE, valT, andT, orT, notT, un1, tupE, dispE, pureL, varE, sized, raiseF, fal, Res.p, Res.l, asgS, e]
    · have t1 : (orT (valT (opE (eqD true) (callF m_kind_of (consE (varE 1) (pureE []))) (pureE (.int 1)))) (valT (opE (inD true) (varE 1) (pureE c_DEEDS)))) [some (.str x), some (.str y), some b, none, none, none] h = .ok true h := by
        have q := in_deeds (b := true) (h := h) hy
        simp [runF, startD, SR.out, retS, seqS, ifS, setS, dropS, nopS, R.toS, R.bind, pureE, consE, callE, callF, opE, unE, negD, chE, andE, orE, notE, ifE, valT, andT, orT, notT, un1, tupE, dispE, pureL, varE, sized, raiseF, fal, Res.p, Res.l, kind_ok ha, eqD_int, kd_str, kd_tup, q, hd]
      simp only [seqS, ifS, t1, R.toS]
      rfl
  · have t1 : (orT (valT (opE (eqD true) (callF m_kind_of (consE (varE 1) (pureE []))) (pureE (.int 1)))) (valT (opE (inD true) (varE 1) (pureE c_DEEDS)))) [some (.str x), some a, some b, none, none, none] h = .ok true h := by
      simp [runF, startD, SR.out, retS, seqS, ifS, setS, dropS, nopS, R.toS, R.bind, pureE, consE, callE, callF, opE, unE, negD, chE, andE, orE, notE, ifE, valT, andT, orT, notT, un1, tupE, dispE, pureL, varE, sized, raiseF, fal, Res.p, Res.l, kind_ok ha, eqD_int, hk]
    simp only [seqS, ifS, t1, R.toS]
    rfl
theorem refl_ok {j n : Nat} {p q : D} {h h1 : AH} {y : Str} {r : Res} (isDo : Bool) (hy : y ∈ deeds) (hb : Wd n (.tup [p, q])) (hn : n ≤ 60) (ho : opsOk (.tup [p, q]) = true) (e : l_told_by j [.str y, snd2 p, snd2 q] h = r.p h1) :
    l_reflected (j + 1) [.str (if isDo then "do" else "falls"), .str y, .tup [p, q]] h = (refl isDo r).p h1 := by
  have hyo := deeds_okw hy
  have e2 := operands_eq (h := h) hb hn
  rw [if_pos ho] at e2
  have e2 : m_operands_of [.tup [p, q]] h = .ok (.tup [snd2 p, snd2 q]) h := e2
  have q1 := in_deeds (b := true) (h := h) hyo
  have k1 : m_kind_of [.str y] h = .ok (.int 1) h := by kernel_rfl
  have d1 : ∀ h, eqD false (.str "do") (.str "do") h = .ok (.bl true) h := fun h => by kernel_rfl
  have d2 : ∀ h, eqD false (.str "falls") (.str "do") h = .ok (.bl false) h := fun h => by kernel_rfl
  have lk : List.lookup ("Fallen" : Str) mt_Fallen = some true := by kernel_rfl
  have lw : ∀ d : D, List.lookup ("word" : Str) [(("word" : Str), d)] = some d := fun d => by simp [List.lookup]
  show (b_reflected (l_reflected j) (l_made_by j) (l_told_by j) [some (.str (if isDo then "do" else "falls")), some (.str y), some (.tup [p, q]), none, none, none] h).out = _
  unfold b_reflected
  have t1 : (orT (valT (opE (eqD true) (callF m_kind_of (consE (varE 1) (pureE []))) (pureE (.int 1)))) (valT (opE (inD true) (varE 1) (pureE c_DEEDS)))) [some (.str (if isDo then "do" else "falls")), some (.str y), some (.tup [p, q]), none, none, none] h = .ok false h := by
    simp [runF, startD, SR.out, retS, seqS, ifS, setS, dropS, nopS, R.toS, R.bind, pureE, consE, callE, callF, opE, unE, negD, chE, andE, orE, notE, ifE, valT, andT, orT, notT, un1, tupE, dispE, pureL, varE, sized, raiseF, fal, Res.p, Res.l, k1, eqD_int, q1, hy]
  rw [seq_skip t1]
  cases isDo with
  | true =>
    cases r with
    | w d => simp [runF, startD, SR.out, retS, seqS, ifS, setS, dropS, nopS, R.toS, R.bind, pureE, consE, callE, callF, opE, unE, negD, chE, andE, orE, notE, ifE, valT, andT, orT, notT, un1, tupE, dispE, pureL, varE, sized, raiseF, fal, Res.p, Res.l, asgS, e2, gTu, gL, gN, d1, e, refl]
    | f x => simp [runF, startD, SR.out, retS, seqS, ifS, setS, dropS, nopS, R.toS, R.bind, pureE, consE, callE, callF, opE, unE, negD, chE, andE, orE, notE, ifE, valT, andT, orT, notT, un1, tupE, dispE, pureL, varE, sized, raiseF, fal, Res.p, Res.l, asgS, e2, gTu, gL, gN, d1, e, refl]
  | false =>
    cases r with
    | w d => simp [runF, startD, SR.out, retS, seqS, ifS, setS, dropS, nopS, R.toS, R.bind, pureE, consE, callE, callF, opE, unE, negD, chE, andE, orE, notE, ifE, valT, andT, orT, notT, un1, tupE, dispE, pureL, varE, sized, raiseF, fal, Res.p, Res.l, asgS, e2, gTu, gL, gN, d2, e, refl, tryAs]
    | f x => simp [runF, startD, SR.out, retS, seqS, ifS, setS, dropS, nopS, R.toS, R.bind, pureE, consE, callE, callF, opE, unE, negD, chE, andE, orE, notE, ifE, valT, andT, orT, notT, un1, tupE, dispE, pureL, varE, sized, raiseF, fal, Res.p, Res.l, asgS, e2, gTu, gL, gN, d2, e, refl, tryAs, lk, xfE, getR, lw, SR.unset]
abbrev ldoB (k : Nat) : S1 := (seqS (ifS (orT (valT (opE (eqD true) (callF m__law_kind (consE (varE 1) (pureE []))) (pureE (.int 1)))) (orT (valT (opE (inD true) (varE 1) (fun _ h => m__law_words [] h))) (orT (notT (valT (opE (eqD false) (callF m__law_kind (consE (varE 2) (pureE []))) (pureE (.int 2))))) (valT (opE (eqD true) (callE (un1 lenD) (consE (varE 2) (pureE []))) (pureE (.int 2))))))) (retS (tupE (consE (pureE (.str "fall")) (consE (pureE (.str "kind")) (pureE []))))) nopS) (seqS (ifS (orT (notT (valT (callF m__law_is_pair (consE (opE ixD (varE 2) (pureE (.int 0))) (pureE []))))) (notT (valT (callF m__law_is_pair (consE (opE ixD (varE 2) (pureE (.int 1))) (pureE [])))))) (retS (tupE (consE (pureE (.str "fall")) (consE (pureE (.str "kind")) (pureE []))))) nopS) (seqS (setS 3 (callF (l__law_deed k) (consE (varE 1) (consE (opE ixD (opE ixD (varE 2) (pureE (.int 0))) (pureE (.int 1))) (consE (opE ixD (opE ixD (varE 2) (pureE (.int 1))) (pureE (.int 1))) (pureE [])))))) (seqS (ifS (valT (opE (eqD false) (varE 0) (pureE (.str "do")))) (retS (varE 3)) nopS) (retS (tupE (consE (pureE (.str "worth")) (consE (ifE (valT (opE (eqD false) (opE ixD (varE 3) (pureE (.int 0))) (pureE (.str "fall")))) (opE ixD (varE 3) (pureE (.int 1))) (pureE (.int 0))) (pureE [])))))))))
theorem seq_in {c : E1 Bool} {A B : S1} {σ : SL} {h : AH} (e : c σ h = .ok true h) : seqS (ifS c A nopS) B σ h = seqS A B σ h := by
  unfold seqS ifS
  rw [e]
  rfl
theorem ldo_start {k : Nat} {a b : D} {h : AH} (isDo : Bool) (hr : ∀ σ' h', ldoB k [some (.str (if isDo then "do" else "falls")), some a, some b, none] h ≠ .nx σ' h') : l__law_deed (k + 1) [.str (if isDo then "do" else "falls"), a, b] h = (ldoB k [some (.str (if isDo then "do" else "falls")), some a, some b, none] h).out := by
  show (b__law_deed (l__law_deed k) [some (.str (if isDo then "do" else "falls")), some a, some b, none] h).out = _
  unfold b__law_deed
  have key : ∀ B : S1, (seqS (ldoB k) B [some (.str (if isDo then "do" else "falls")), some a, some b, none] h).out = (ldoB k [some (.str (if isDo then "do" else "falls")), some a, some b, none] h).out := fun B => by
    show SR.out (match ldoB k [some (.str (if isDo then "do" else "falls")), some a, some b, none] h with
      | .nx σ1 h1 => B σ1 h1
      | r => r) = _
    cases e : ldoB k [some (.str (if isDo then "do" else "falls")), some a, some b, none] h with
    | nx σ1 h1 => exact absurd e (hr σ1 h1)
    | _ => rfl
  cases isDo with
  | true =>
    rw [seq_skip (by kernel_rfl), seq_skip (by kernel_rfl), seq_skip (by kernel_rfl), seq_skip (by kernel_rfl), seq_in (by kernel_rfl)]
    exact key _
  | false =>
    rw [seq_skip (by kernel_rfl), seq_skip (by kernel_rfl), seq_skip (by kernel_rfl), seq_skip (by kernel_rfl), seq_in (by kernel_rfl)]
    exact key _
theorem pair_ok {n : Nat} {x : D} {h : AH} (hx : Wd n x) (hn : n ≤ 60) : m__law_is_pair [x] h = .ok (.bl (tagd "c" x)) h := by
  show (b__law_is_pair [some x] h).out = _
  unfold b__law_is_pair
  rw [last_ret]
  exact tag_E (fun h => lkind_ok hx) rfl hx hn c_in
theorem rt_ret {m : E1 D} {σ : SL} {h h1 : AH} {d : D} (e : m σ h = .ok d h1) : retS m σ h = .rt d h1 := by
  unfold retS
  rw [e]
  rfl
theorem lbad_rt {σ : SL} {h : AH} : retS (tupE (consE (pureE (.str "fall")) (consE (pureE (.str "kind")) (pureE [])))) σ h = .rt (Res.f "kind").l h := rt_ret (by kernel_rfl)
theorem ldo_bad {k n : Nat} {a b : D} {h : AH} (isDo : Bool) (ha : Wd n a) (hb : Wd n b) (hn : n ≤ 60) (hc : ¬ ((∃ y ∈ deeds, a = .str y) ∧ opsOk b = true)) : l__law_deed (k + 1) [.str (if isDo then "do" else "falls"), a, b] h = .ok (Res.f "kind").l h := by
  have main : ldoB k [some (.str (if isDo then "do" else "falls")), some a, some b, none] h = .rt (Res.f "kind").l h := by
    generalize (if isDo = true then Str.ofString "do" else Str.ofString "falls") = w
    have first : ∀ (c : E1 Bool) (A B : S1) (σ : SL), c σ h = .ok true h → A σ h = .rt (Res.f "kind").l h → seqS (ifS c A nopS) B σ h = .rt (Res.f "kind").l h := fun c A B σ e1 e2 => by
      unfold seqS ifS
      rw [e1]
      show (match A σ h with
        | .nx σ1 h1 => B σ1 h1
        | r => r) = _
      rw [e2]
    by_cases hk : kd a = 1
    · obtain ⟨y, rfl, hy⟩ := kd1 ha hk
      have q := in_words (b := true) (h := h) hy
      by_cases hd : y ∈ deeds
      · have ho : opsOk b = false := by
          cases q : opsOk b with
          | true => exact absurd ⟨⟨y, hd, rfl⟩, q⟩ hc
          | false => rfl
        by_cases hk2 : kd b = 2
        · obtain ⟨m, l, hm, rfl, hz, hl⟩ := kd2 hb hk2
          by_cases h2 : l.length = 2
          · obtain ⟨p, r, rfl⟩ := two_of h2
            have hp := pair_ok (h := h) (hl p (by simp)) (by omega)
            have hr := pair_ok (h := h) (hl r (by simp)) (by omega)
            have a0 : L2.atI [p, r] 0 = some p := rfl
            have a1 : L2.atI [p, r] 1 = some r := rfl
            have t1 : (orT (valT (opE (eqD true) (callF m__law_kind (consE (varE 1) (pureE []))) (pureE (.int 1)))) (orT (valT (opE (inD true) (varE 1) (fun _ h => m__law_words [] h))) (orT (notT (valT (opE (eqD false) (callF m__law_kind (consE (varE 2) (pureE []))) (pureE (.int 2))))) (valT (opE (eqD true) (callE (un1 lenD) (consE (varE 2) (pureE []))) (pureE (.int 2))))))) [some (.str w), some (.str y), some (.tup [p, r]), none] h = .ok false h := by
              simp [runF, startD, SR.out, retS, seqS, ifS, setS, dropS, nopS, R.toS, R.bind, pureE, consE, callE, callF, opE, unE, negD, chE, andE, orE, notE, ifE, valT, andT, orT, notT, un1, tupE, dispE, pureL, varE, sized, raiseF, fal, Res.p, Res.l, lkind_ok ha, lkind_ok hb, eqD_int, kd_str, kd_tup, words_ok, q, hd, lenD]
            show seqS (ifS _ _ nopS) _ _ h = _
            rw [seq_skip t1]
            refine first _ _ _ _ ?_ lbad_rt
            have ho' : (tagd "c" p && tagd "c" r) = false := ho
            cases e1 : tagd "c" p with
            | false => simp [runF, startD, SR.out, retS, seqS, ifS, setS, dropS, nopS, R.toS, R.bind, pureE, consE, callE, callF, opE, unE, negD, chE, andE, orE, notE, ifE, valT, andT, orT, notT, un1, tupE, dispE, pureL, varE, sized, raiseF, fal, Res.p, Res.l, opE, ixD, getO, a0, a1, hp, hr, e1]
            | true =>
              rw [e1] at ho'
              have e2 : tagd "c" r = false := by simpa using ho'
              simp [runF, startD, SR.out, retS, seqS, ifS, setS, dropS, nopS, R.toS, R.bind, pureE, consE, callE, callF, opE, unE, negD, chE, andE, orE, notE, ifE, valT, andT, orT, notT, un1, tupE, dispE, pureL, varE, sized, raiseF, fal, Res.p, Res.l, opE, ixD, getO, a0, a1, hp, hr, e1, e2]
          · have h2' : ¬ (l.length : Int) = 2 := by omega
            refine first _ _ _ _ ?_ lbad_rt
            simp [runF, startD, SR.out, retS, seqS, ifS, setS, dropS, nopS, R.toS, R.bind, pureE, consE, callE, callF, opE, unE, negD, chE, andE, orE, notE, ifE, valT, andT, orT, notT, un1, tupE, dispE, pureL, varE, sized, raiseF, fal, Res.p, Res.l, lkind_ok ha, lkind_ok hb, eqD_int, kd_str, kd_tup, words_ok, q, hd, lenD, h2']
        · refine first _ _ _ _ ?_ lbad_rt
          simp [runF, startD, SR.out, retS, seqS, ifS, setS, dropS, nopS, R.toS, R.bind, pureE, consE, callE, callF, opE, unE, negD, chE, andE, orE, notE, ifE, valT, andT, orT, notT, un1, tupE, dispE, pureL, varE, sized, raiseF, fal, Res.p, Res.l, lkind_ok ha, lkind_ok hb, eqD_int, kd_str, kd_tup, words_ok, q, hd, hk2]
      · refine first _ _ _ _ ?_ lbad_rt
        simp [runF, startD, SR.out, retS, seqS, ifS, setS, dropS, nopS, R.toS, R.bind, pureE, consE, callE, callF, opE, unE, negD, chE, andE, orE, notE, ifE, valT, andT, orT, notT, un1, tupE, dispE, pureL, varE, sized, raiseF, fal, Res.p, Res.l, lkind_ok ha, eqD_int, kd_str, kd_tup, words_ok, q, hd]
    · refine first _ _ _ _ ?_ lbad_rt
      simp [runF, startD, SR.out, retS, seqS, ifS, setS, dropS, nopS, R.toS, R.bind, pureE, consE, callE, callF, opE, unE, negD, chE, andE, orE, notE, ifE, valT, andT, orT, notT, un1, tupE, dispE, pureL, varE, sized, raiseF, fal, Res.p, Res.l, lkind_ok ha, eqD_int, hk]
  rw [ldo_start isDo (fun σ' h' z => by rw [main] at z; cases z), main]
  rfl
theorem ldo_ok {k n : Nat} {p q : D} {h h1 : AH} {y : Str} {r : Res} (isDo : Bool) (hy : y ∈ deeds) (hb : Wd n (.tup [p, q])) (hn : n ≤ 60) (ho : opsOk (.tup [p, q]) = true) (e : l__law_deed k [.str y, snd2 p, snd2 q] h = .ok r.l h1) :
    l__law_deed (k + 1) [.str (if isDo then "do" else "falls"), .str y, .tup [p, q]] h = .ok (refl isDo r).l h1 := by
  have hyo := deeds_okw hy
  obtain ⟨m, l, hm, el, hz, hl⟩ := kd2 hb rfl
  cases el
  have ho' : (tagd "c" p && tagd "c" q) = true := ho
  rw [Bool.and_eq_true] at ho'
  have hp := pair_ok (h := h) (hl p (by simp)) (by omega)
  have hq := pair_ok (h := h) (hl q (by simp)) (by omega)
  obtain ⟨cp, dp, rfl⟩ := tagd_pair ho'.1
  obtain ⟨cq, dq, rfl⟩ := tagd_pair ho'.2
  have e : l__law_deed k [.str y, dp, dq] h = .ok r.l h1 := e
  have iw := in_words (b := true) (h := h) hyo
  have k1 : m__law_kind [.str y] h = .ok (.int 1) h := by kernel_rfl
  have k2 : m__law_kind [.tup [.tup [cp, dp], .tup [cq, dq]]] h = .ok (.int 2) h := by kernel_rfl
  have d1 : ∀ h, eqD false (.str "do") (.str "do") h = .ok (.bl true) h := fun h => by kernel_rfl
  have d2 : ∀ h, eqD false (.str "falls") (.str "do") h = .ok (.bl false) h := fun h => by kernel_rfl
  have w1 : ∀ h, eqD false (.str "worth") (.str "fall") h = .ok (.bl false) h := fun h => by kernel_rfl
  have w2 : ∀ h, eqD false (.str "fall") (.str "fall") h = .ok (.bl true) h := fun h => by kernel_rfl
  have a0 : L2.atI [D.tup [cp, dp], .tup [cq, dq]] 0 = some (.tup [cp, dp]) := rfl
  have a1 : L2.atI [D.tup [cp, dp], .tup [cq, dq]] 1 = some (.tup [cq, dq]) := rfl
  have a2 : L2.atI [cp, dp] 1 = some dp := rfl
  have a3 : L2.atI [cq, dq] 1 = some dq := rfl
  have main : ldoB k [some (.str (if isDo then "do" else "falls")), some (.str y), some (.tup [.tup [cp, dp], .tup [cq, dq]]), none] h = .rt (refl isDo r).l h1 := by
    unfold ldoB
    have t1 : (orT (valT (opE (eqD true) (callF m__law_kind (consE (varE 1) (pureE []))) (pureE (.int 1)))) (orT (valT (opE (inD true) (varE 1) (fun _ h => m__law_words [] h))) (orT (notT (valT (opE (eqD false) (callF m__law_kind (consE (varE 2) (pureE []))) (pureE (.int 2))))) (valT (opE (eqD true) (callE (un1 lenD) (consE (varE 2) (pureE []))) (pureE (.int 2))))))) [some (.str (if isDo then "do" else "falls")), some (.str y), some (.tup [.tup [cp, dp], .tup [cq, dq]]), none] h = .ok false h := by
      simp [runF, startD, SR.out, retS, seqS, ifS, setS, dropS, nopS, R.toS, R.bind, pureE, consE, callE, callF, opE, unE, negD, chE, andE, orE, notE, ifE, valT, andT, orT, notT, un1, tupE, dispE, pureL, varE, sized, raiseF, fal, Res.p, Res.l, k1, k2, eqD_int, words_ok, iw, hy, lenD]
    have t2 : (orT (notT (valT (callF m__law_is_pair (consE (opE ixD (varE 2) (pureE (.int 0))) (pureE []))))) (notT (valT (callF m__law_is_pair (consE (opE ixD (varE 2) (pureE (.int 1))) (pureE [])))))) [some (.str (if isDo then "do" else "falls")), some (.str y), some (.tup [.tup [cp, dp], .tup [cq, dq]]), none] h = .ok false h := by
      simp [runF, startD, SR.out, retS, seqS, ifS, setS, dropS, nopS, R.toS, R.bind, pureE, consE, callE, callF, opE, unE, negD, chE, andE, orE, notE, ifE, valT, andT, orT, notT, un1, tupE, dispE, pureL, varE, sized, raiseF, fal, Res.p, Res.l, ixD, getO, a0, a1, hp, hq, ho'.1, ho'.2]
    rw [seq_skip t1, seq_skip t2]
    cases isDo with
    | true => cases r <;> simp [runF, startD, SR.out, retS, seqS, ifS, setS, dropS, nopS, R.toS, R.bind, pureE, consE, callE, callF, opE, unE, negD, chE, andE, orE, notE, ifE, valT, andT, orT, notT, un1, tupE, dispE, pureL, varE, sized, raiseF, fal, Res.p, Res.l, ixD, getO, a0, a1, a2, a3, e, d1, refl]
    | false =>
      cases r with
      | w d =>
        have b0 : L2.atI [D.str "worth", d] 0 = some (.str "worth") := rfl
        simp [runF, startD, SR.out, retS, seqS, ifS, setS, dropS, nopS, R.toS, R.bind, pureE, consE, callE, callF, opE, unE, negD, chE, andE, orE, notE, ifE, valT, andT, orT, notT, un1, tupE, dispE, pureL, varE, sized, raiseF, fal, Res.p, Res.l, ixD, getO, a0, a1, a2, a3, e, d2, refl, b0, w1]
      | f x =>
        have b0 : L2.atI [D.str "fall", .str x] 0 = some (.str "fall") := rfl
        have b1 : L2.atI [D.str "fall", .str x] 1 = some (.str x) := rfl
        simp [runF, startD, SR.out, retS, seqS, ifS, setS, dropS, nopS, R.toS, R.bind, pureE, consE, callE, callF, opE, unE, negD, chE, andE, orE, notE, ifE, valT, andT, orT, notT, un1, tupE, dispE, pureL, varE, sized, raiseF, fal, Res.p, Res.l, ixD, getO, a0, a1, a2, a3, e, d2, refl, b0, b1, w2]
  rw [ldo_start isDo (fun σ' h' z => by rw [main] at z; cases z), main]
  rfl
end RF

set_option maxRecDepth 100000
set_option maxHeartbeats 1000000
namespace RF
open PySem PySem.Spec
theorem refl_rok {isDo : Bool} {r : Res} (h : Rok r) : Rok (refl isDo r) := by
  cases isDo with
  | true => exact h
  | false =>
    cases r with
    | w d => exact Py.int
    | f x => exact Py.str h
theorem ag_do (isDo : Bool) {n j k : Nat} {a b : D} (ha : Wd n a) (hb : Wd n b) (hn : n ≤ 30)
    (ih : ∀ (m : Nat) (y : Str) (p q : D), m + 2 = n → y ∈ deeds → Wd m p → Wd m q → Ag (l_told_by j) (l__law_deed k) [.str y, p, q]) : Ag (l_told_by (j + 3)) (l__law_deed (k + 1)) [.str (if isDo then "do" else "falls"), a, b] := by
  have hm : ∀ h, inD false (.str (if isDo then "do" else "falls")) c_MAKING h = .ok (.bl false) h := fun h => by
    cases isDo with
    | true => exact mk_do h
    | false => exact mk_falls h
  have hmade : ∀ h, l_made_by (j + 2) [.str (if isDo then "do" else "falls"), a, b] h = l_reflected (j + 1) [.str (if isDo then "do" else "falls"), a, b] h := fun h => by
    cases isDo with
    | true => exact made_do
    | false => exact made_falls
  by_cases hc : (∃ y ∈ deeds, a = .str y) ∧ opsOk b = true
  · obtain ⟨⟨y, hy, rfl⟩, ho⟩ := hc
    obtain ⟨p, q, rfl, hp, hq⟩ := opsOk_pair ho
    obtain ⟨m, l, hmn, el, _, hl⟩ := kd2 hb rfl
    cases el
    have sub : ∀ x : D, Wd m x → tagd "c" x = true → ∃ m', m = m' + 1 ∧ Wd m' (snd2 x) := fun x hx ht => by
      obtain ⟨c, d, rfl⟩ := tagd_pair ht
      obtain ⟨m', l', e, el, _, hl'⟩ := kd2 hx rfl
      cases el
      exact ⟨m', e, hl' d (by simp)⟩
    obtain ⟨m1, e1, w1⟩ := sub p (hl p (by simp)) hp
    obtain ⟨m2, e2, w2⟩ := sub q (hl q (by simp)) hq
    have e3 : m2 = m1 := by omega
    rw [e3] at w2
    obtain ⟨r, rk, h1, h2⟩ := ih m1 y (snd2 p) (snd2 q) (by omega) hy w1 w2
    refine ⟨refl isDo r, refl_rok rk, fun h => ?_, fun h => ?_⟩
    · obtain ⟨g, e⟩ := h1 h
      exact ⟨g, by rw [told_eq hm, hmade]; exact refl_ok isDo hy hb (by omega) ho e⟩
    · obtain ⟨g, e⟩ := h2 h
      exact ⟨g, ldo_ok isDo hy hb (by omega) ho e⟩
  · exact ⟨.f "kind", ok_kind, nopP fun h => by rw [told_eq hm, hmade]; exact refl_bad ha hb (by omega) hc, nopL fun h => ldo_bad isDo ha hb (by omega) hc⟩
theorem ag_all (n : Nat) : ∀ (x : Str) (a b : D) (j k : Nat), x ∈ deeds → Wd n a → Wd n b → n ≤ 30 → 3 * n + 3 ≤ j → n + 1 ≤ k → Ag (l_told_by j) (l__law_deed k) [.str x, a, b] := by
  induction n using Nat.strongRecOn with
  | ind n ih =>
    intro x a b j k hx ha hb hn hj hk
    obtain ⟨j, rfl⟩ : ∃ j', j = j' + 3 := ⟨j - 3, by omega⟩
    obtain ⟨k, rfl⟩ : ∃ k', k = k' + 1 := ⟨k - 1, by omega⟩
    have rec_ : ∀ (m : Nat) (y : Str) (p q : D), m + 2 = n → y ∈ deeds → Wd m p → Wd m q → Ag (l_told_by j) (l__law_deed k) [.str y, p, q] := fun m y p q e hy hp hq => ih m (by omega) y p q j k hy hp hq (by omega) (by omega) (by omega)
    simp only [deeds, List.mem_cons, List.not_mem_nil, or_false] at hx
    rcases hx with rfl | rfl | rfl | rfl | rfl | rfl | rfl | rfl | rfl | rfl | rfl | rfl | rfl | rfl | rfl | rfl | rfl | rfl
    · exact ag_copy (j := j + 1) ha hb hn
    · exact ag_plus (j := j + 1) ha hb
    · exact ag_minus (j := j + 1) ha hb
    · exact ag_half (j := j + 1) ha hb
    · exact ag_less (j := j + 1) ha hb
    · exact ag_same (j := j + 1) ha hb hn
    · exact ag_kind (j := j + 1) ha hb hn
    · exact ag_many (j := j + 1) ha hb
    · exact ag_at (j := j + 1) ha hb hn
    · exact ag_add (j := j + 1) ha hb hn
    · exact ag_put (j := j + 1) ha hb hn
    · exact ag_pair (j := j + 1) ha hb hn
    · exact ag_union (j := j + 1) ha hb hn
    · exact ag_counts (j := j + 1) ha hb hn
    · exact ag_spread (j := j + 1) ha hb hn
    · exact ag_fill (j := j + 1) ha hb hn
    · exact ag_do true ha hb hn rec_
    · exact ag_do false ha hb hn rec_
/-! ### what is a worth -/
theorem word_ok {x : Str} (hx : x ∈ okw) (h : AH) : m_is_word [.str x] h = .ok (.bl true) h := by
  simp only [okw, List.mem_cons, List.not_mem_nil, or_false] at hx
  rcases hx with rfl | rfl | rfl | rfl | rfl | rfl | rfl | rfl | rfl | rfl | rfl | rfl | rfl | rfl | rfl | rfl | rfl | rfl | rfl | rfl | rfl | rfl | rfl <;> kernel_rfl
theorem within_ok (n : Nat) : ∀ (d : D) (k : Nat) (room : Int) (h : AH), Wd n d → n + 1 ≤ k → (n : Int) + 1 ≤ room → l_is_within k [d, .int room] h = .ok (.bl true) h := by
  induction n with
  | zero =>
    intro d k room h hd hk hr
    obtain ⟨k, rfl⟩ : ∃ k', k = k' + 1 := ⟨k - 1, by omega⟩
    have h0 : 0 < room := by omega
    show (b_is_within (l_is_within k) [some d, some (.int room), none] h).out = _
    unfold b_is_within
    rcases hd.cases with ⟨i, rfl, hi⟩ | ⟨x, rfl, hx⟩ | ⟨m, l, e, _⟩
    · have hn : m_is_number [.int i] h = .ok (.bl true) h := by
        simp [runF, startD, SR.out, retS, seqS, ifS, setS, dropS, nopS, R.toS, R.bind, pureE, consE, callE, callF, opE, unE, negD, chE, andE, orE, notE, ifE, valT, andT, orT, notT, un1, tupE, dispE, pureL, varE, sized, raiseF, fal, Res.p, Res.l, m_is_number, b_is_number, isiE, tyOf, Ty.sub, intD, leF, hi.1, hi.2]
      simp [runF, startD, SR.out, retS, seqS, ifS, setS, dropS, nopS, R.toS, R.bind, pureE, consE, callE, callF, opE, unE, negD, chE, andE, orE, notE, ifE, valT, andT, orT, notT, un1, tupE, dispE, pureL, varE, sized, raiseF, fal, Res.p, Res.l, isiE, tyOf, Ty.sub, intD, gtF, h0, hn]
    · have hn : m_is_number [.str x] h = .ok (.bl false) h := by
        simp [runF, startD, SR.out, retS, seqS, ifS, setS, dropS, nopS, R.toS, R.bind, pureE, consE, callE, callF, opE, unE, negD, chE, andE, orE, notE, ifE, valT, andT, orT, notT, un1, tupE, dispE, pureL, varE, sized, raiseF, fal, Res.p, Res.l, m_is_number, b_is_number, isiE, tyOf, Ty.sub]
      simp [runF, startD, SR.out, retS, seqS, ifS, setS, dropS, nopS, R.toS, R.bind, pureE, consE, callE, callF, opE, unE, negD, chE, andE, orE, notE, ifE, valT, andT, orT, notT, un1, tupE, dispE, pureL, varE, sized, raiseF, fal, Res.p, Res.l, isiE, tyOf, Ty.sub, intD, gtF, h0, hn, word_ok hx]
    · cases e
  | succ n ih =>
    intro d k room h hd hk hr
    rcases hd.cases with ⟨i, rfl, hi⟩ | ⟨x, rfl, hx⟩ | ⟨m, l, e, rfl, hz, hl⟩
    · exact ih _ k room h (Wd.int hi) (by omega) (by omega)
    · exact ih _ k room h (Wd.str hx) (by omega) (by omega)
    · cases e
      obtain ⟨k, rfl⟩ : ∃ k', k = k' + 1 := ⟨k - 1, by omega⟩
      have h0 : 0 < room := by omega
      have h1 : (l.length : Int) ≤ 5000 := by omega
      have c1 : compE [2] (seqE (varE 0)) (gN 2) yesE (callF (l_is_within k) (consE (varE 2) (consE (opE (intD subF) (varE 1) (pureE (.int 1))) (pureE [])))) [some (.tup l), some (.int room), none] h = .ok (l.map fun _ => .bl true) h :=
        comp_ok (l := l) (h1 := h) (seqE_ok (d := .tup l) rfl rfl) (by omega) (compL_map (σg := fun d => [some (.tup l), some (.int room), some d]) (fun d hd => rfl) (fun d hd => rfl) (fun d hd => ih d k (room - 1) h (hl d hd) (by omega) (by omega)))
      show (b_is_within (l_is_within k) [some (.tup l), some (.int room), none] h).out = _
      unfold b_is_within
      have t1 : (valT (isiE .tuple (varE 0))) [some (.tup l), some (.int room), none] h = .ok true h := by kernel_rfl
      rw [seq_ret t1]
      have all1 : callE (un1 (allC false)) (consE (pureL (compE [2] (seqE (varE 0)) (gN 2) yesE (callF (l_is_within k) (consE (varE 2) (consE (opE (intD subF) (varE 1) (pureE (.int 1))) (pureE [])))))) (pureE [])) [some (.tup l), some (.int room), none] h = .ok (.bl true) h := by
        simp only [callE, consE, pureL, c1, R.bind, pureE, un1, allC, lstOf, Option.bind, blsOf_map (f := fun _ => true), getO]
        simp
      generalize (callE (un1 (allC false)) (consE (pureL (compE [2] (seqE (varE 0)) (gN 2) yesE (callF (l_is_within k) (consE (varE 2) (consE (opE (intD subF) (varE 1) (pureE (.int 1))) (pureE [])))))) (pureE []))) = M at all1 ⊢
      simp [runF, startD, SR.out, retS, seqS, ifS, setS, dropS, nopS, R.toS, R.bind, pureE, consE, callE, callF, opE, unE, negD, chE, andE, orE, notE, ifE, valT, andT, orT, notT, un1, tupE, dispE, pureL, varE, sized, raiseF, fal, Res.p, Res.l, intD, gtF, leF, lenD, h0, h1, all1]
theorem worth_is {n : Nat} {d : D} {h : AH} (hd : Wd n d) (hn : n ≤ 19) : m_is_worth [d] h = .ok (.bl true) h := by
  have e := within_ok n d 24 20 h hd (by omega) (by omega)
  show (b_is_worth [some d] h).out = _
  unfold b_is_worth
  rw [last_ret]
  exact e
/-! ### done and the law's own deed tell the same -/
theorem done_ok {n : Nat} {x : Str} {a b : D} (hx : x ∈ deeds) (ha : Wd n a) (hb : Wd n b) (hn : n ≤ 19) : ∃ r, Rok r ∧ (∀ h, ∃ g, m_done [.str x, a, b] h = .ok r.l (h ++ g)) ∧ (∀ h, ∃ g, m__law_deed [.str x, a, b] h = .ok r.l (h ++ g)) := by
  obtain ⟨r, rk, h1, h2⟩ := ag_all n x a b 60 24 hx ha hb (by omega) (by omega) (by omega)
  refine ⟨r, rk, fun h => ?_, fun h => by unfold m__law_deed; exact h2 h⟩
  obtain ⟨g, e⟩ := h1 h
  refine ⟨g, ?_⟩
  have e : m_told_by [.str x, a, b] h = r.p (h ++ g) := by unfold m_told_by; exact e
  have q := in_deeds (b := true) (h := h) (deeds_okw hx)
  have wa := worth_is (h := h) ha hn
  have wb := worth_is (h := h) hb hn
  have lk : List.lookup ("Fallen" : Str) mt_Fallen = some true := by kernel_rfl
  have lw : ∀ d : D, List.lookup ("word" : Str) [(("word" : Str), d)] = some d := fun d => by simp [List.lookup]
  show (b_done [some (.str x), some a, some b, none] h).out = _
  unfold b_done
  have t1 : (orT (notT (valT (isiE .str (varE 0)))) (valT (opE (inD true) (varE 0) (pureE c_DEEDS)))) [some (.str x), some a, some b, none] h = .ok false h := by
    simp [runF, startD, SR.out, retS, seqS, ifS, setS, dropS, nopS, R.toS, R.bind, pureE, consE, callE, callF, opE, unE, negD, chE, andE, orE, notE, ifE, valT, andT, orT, notT, un1, tupE, dispE, pureL, varE, sized, raiseF, fal, Res.p, Res.l, isiE, tyOf, Ty.sub, q, hx]
  have t2 : (orT (notT (valT (callF m_is_worth (consE (varE 1) (pureE []))))) (notT (valT (callF m_is_worth (consE (varE 2) (pureE [])))))) [some (.str x), some a, some b, none] h = .ok false h := by
    simp [runF, startD, SR.out, retS, seqS, ifS, setS, dropS, nopS, R.toS, R.bind, pureE, consE, callE, callF, opE, unE, negD, chE, andE, orE, notE, ifE, valT, andT, orT, notT, un1, tupE, dispE, pureL, varE, sized, raiseF, fal, Res.p, Res.l, wa, wb]
  rw [seq_skip t1, seq_skip t2]
  cases r with
  | w d => simp [runF, startD, SR.out, retS, seqS, ifS, setS, dropS, nopS, R.toS, R.bind, pureE, consE, callE, callF, opE, unE, negD, chE, andE, orE, notE, ifE, valT, andT, orT, notT, un1, tupE, dispE, pureL, varE, sized, raiseF, fal, Res.p, Res.l, tryAs, e]
  | f x => simp [runF, startD, SR.out, retS, seqS, ifS, setS, dropS, nopS, R.toS, R.bind, pureE, consE, callE, callF, opE, unE, negD, chE, andE, orE, notE, ifE, valT, andT, orT, notT, un1, tupE, dispE, pureL, varE, sized, raiseF, fal, Res.p, Res.l, tryAs, e, lk, xfE, getR, lw, SR.unset]
/-- the law's test of a deed -/
theorem test_ok {n : Nat} {x : Str} {a b : D} {i j k : Nat} {σ : SL} (hx : x ∈ deeds) (ha : Wd n a) (hb : Wd n b) (hn : n ≤ 19) (si : σ[i]? = some (some (.str x))) (sj : σ[j]? = some (some a)) (sk : σ[k]? = some (some b)) (h : AH) :
    ∃ h', valT (opE (eqD true) (callF m_done (consE (varE i) (consE (varE j) (consE (varE k) (pureE []))))) (callF m__law_deed (consE (varE i) (consE (varE j) (consE (varE k) (pureE [])))))) σ h = .ok false h' := by
  obtain ⟨r, rk, h1, h2⟩ := done_ok hx ha hb hn
  obtain ⟨g, e1⟩ := h1 h
  obtain ⟨g2, e2⟩ := h2 (h ++ g)
  refine ⟨h ++ g ++ g2, ?_⟩
  have v1 : ∀ h, varE i σ h = .ok (.str x) h := fun h => varE_ok si
  have v2 : ∀ h, varE j σ h = .ok a h := fun h => varE_ok sj
  have v3 : ∀ h, varE k σ h = .ok b h := fun h => varE_ok sk
  simp only [valT, opE, callF, consE, v1, v2, v3, pureE, R.bind, e1, e2, ne_self rk.Py (by decide)]
end RF

set_option maxRecDepth 100000
set_option maxHeartbeats 1000000
namespace RF
open PySem PySem.Spec
/-! ### draws -/
def Ints (l : List D) : Prop := ∀ d ∈ l, ∃ i : Int, d = .int i
/-- a list of numbers stands at i -/
def Okh (i : Nat) (h : AH) : Prop := ∃ ds, h[i]? = some (.lst ds) ∧ Ints ds ∧ ds.length ≤ 1000
theorem Okh.py {i : Nat} {h : AH} {ds : List D} (e : h[i]? = some (.lst ds)) (hi : Ints ds) : toPy h (.ref i) = some (.list (ds.map Pd)) := by
  simp only [toPy, e, pys_ints hi]
  rfl
theorem by_ok {i : Nat} {h : AH} {m : Int} (o : Okh i h) (hm : 0 < m) : ∃ v h', m__law_by [.ref i, .int m] h = .ok (.int v) h' ∧ 0 ≤ v ∧ v < m ∧ Okh i h' := by
  obtain ⟨ds, e, hi, hz⟩ := o
  have py := Okh.py e hi
  have hlt := (List.getElem?_eq_some_iff.mp e).1
  cases ds with
  | nil =>
    refine ⟨0, h, ?_, Int.le_refl _, hm, [], e, hi, hz⟩
    have q : eqD true (.ref i) (.lst []) h = .ok (.bl false) h := by
      unfold eqD
      rw [py]
      rfl
    simp [runF, startD, SR.out, retS, seqS, ifS, setS, dropS, nopS, R.toS, R.bind, pureE, consE, callE, callF, opE, unE, negD, chE, andE, orE, notE, ifE, valT, andT, orT, notT, un1, tupE, dispE, pureL, varE, sized, raiseF, fal, Res.p, Res.l, m__law_by, b__law_by, q]
  | cons d ds =>
    obtain ⟨x, rfl⟩ := hi d List.mem_cons_self
    refine ⟨x % m, h.set i (.lst ds), ?_, Int.emod_nonneg _ (by omega), Int.emod_lt_of_pos _ hm, ds, List.getElem?_set_self hlt, fun e he => hi e (List.mem_cons_of_mem _ he), by simp at hz; omega⟩
    have q : eqD true (.ref i) (.lst []) h = .ok (.bl true) h := by
      unfold eqD
      rw [py]
      have hd : Nat.ble (min (PyData.depth (.list ((D.int x :: ds).map Pd))) (PyData.depth (.list []))) 64 = true := by
        refine Nat.ble_eq.mpr ?_
        show min _ 1 ≤ 64
        omega
      show (if Nat.ble (min (PyData.depth (.list ((D.int x :: ds).map Pd))) (PyData.depth (.list []))) 64 = true then R.ok (D.bl (true ^^ PyData.eqv (.list ((D.int x :: ds).map Pd)) (.list []))) h else .stuck) = _
      rw [if_pos hd]
      rfl
    have si : seqIndex? 0 (ds.length + 1) = some 0 := by simp [seqIndex?]
    simp [runF, startD, SR.out, retS, seqS, ifS, setS, dropS, nopS, R.toS, R.bind, pureE, consE, callE, callF, opE, unE, negD, chE, andE, orE, notE, ifE, valT, andT, orT, notT, un1, tupE, dispE, pureL, varE, sized, raiseF, fal, Res.p, Res.l, m__law_by, b__law_by, q, popAtE, isL, lstAt, e, getR, si, intC, intD, modF, hm]
/-! ### worths drawn -/
theorem comp_dr {g : G1} {elt : E1 D} {i n : Nat} {σ : SL} {P : SL → Prop} (hg : ∀ d, ∃ σ', g d σ = some σ' ∧ P σ') (he : ∀ σ' h, P σ' → Okh i h → ∃ d h', elt σ' h = .ok d h' ∧ Wd n d ∧ Okh i h') : ∀ (l : List D) (h : AH), Okh i h → ∃ ds h', compL g yesE elt l σ h = .ok ds h' ∧ ds.length = l.length ∧ (∀ d ∈ ds, Wd n d) ∧ Okh i h'
  | [], h, o => ⟨[], h, rfl, rfl, fun _ z => by simp at z, o⟩
  | d :: l, h, o => by
    obtain ⟨σ', e, p⟩ := hg d
    obtain ⟨y, h1, e1, w1, o1⟩ := he σ' h p o
    obtain ⟨ds, h2, e2, l2, w2, o2⟩ := comp_dr hg he l h1 o1
    refine ⟨y :: ds, h2, ?_, by simp [l2], fun x hx => ?_, o2⟩
    · unfold compL
      rw [e]
      simp only [yesE, R.nox, R.bind, if_true, e1, e2]
    · rcases List.mem_cons.mp hx with rfl | hx
      · exact w1
      · exact w2 x hx
theorem ix_ok {l : List D} {v : Int} {h : AH} {n : Nat} (h0 : 0 ≤ v) (h1 : v < l.length) (hw : ∀ d ∈ l, Wd n d) : ∃ d, ixD (.lst l) (.int v) h = .ok d h ∧ Wd n d := by
  obtain ⟨d, e, hd⟩ := at_in h0 h1
  exact ⟨d, by simp [ixD, lstOf, getO, e], hw d hd⟩
theorem numl_ok : ∀ d ∈ [D.int 0, .int 1, .int 2, .int (-1), .int 9999, .int (-9999), .int 7], Wd 0 d := by
  intro d hd
  simp at hd
  rcases hd with rfl | rfl | rfl | rfl | rfl | rfl | rfl <;> exact Wd.int (by omega)
theorem strl_ok {l : List Str} (hl : ∀ x ∈ l, x ∈ okw) : ∀ d ∈ l.map D.str, Wd 0 d := fun d hd => by
  obtain ⟨x, hx, rfl⟩ := List.mem_map.mp hd
  exact Wd.str (hl x hx)
theorem pairW {n : Nat} {c : Str} {d : D} (hc : c ∈ okw) (hd : Wd n d) : Wd (n + 1) (.tup [.str c, d]) := Wd.tup (by simp) fun e he => by
  simp at he
  rcases he with rfl | rfl
  · exact Wd.str hc
  · exact hd
theorem worth_dr (m : Nat) : ∀ (i k : Nat) (h : AH), Okh i h → m + 1 ≤ k → ∃ d h', l__law_worth k [.ref i, .int m] h = .ok d h' ∧ Wd (2 * m) d ∧ Okh i h' := by
  induction m with
  | zero =>
    intro i k h o hk
    obtain ⟨k, rfl⟩ : ∃ k', k = k' + 1 := ⟨k - 1, by omega⟩
    obtain ⟨v, h1, e1, v0, v1, o1⟩ := by_ok (m := 12) o (by omega)
    show ∃ d h', (b__law_worth (l__law_worth k) [some (.ref i), some (.int 0), none, none] h).out = .ok d h' ∧ Wd 0 d ∧ Okh i h'
    unfold b__law_worth
    by_cases c1 : v < 5 ∨ v > 7
    · obtain ⟨u, h2, e2, u0, u1, o2⟩ := by_ok (m := 7) o1 (by omega)
      obtain ⟨d, e3, w3⟩ := ix_ok (h := h2) u0 (by simpa using u1) numl_ok
      refine ⟨d, h2, ?_, w3, o2⟩
      rcases c1 with c | c
      · simp [runF, startD, SR.out, retS, seqS, ifS, setS, dropS, nopS, R.toS, R.bind, pureE, consE, callE, callF, opE, unE, negD, chE, andE, orE, notE, ifE, valT, andT, orT, notT, un1, tupE, dispE, pureL, varE, sized, raiseF, fal, Res.p, Res.l, e1, intD, ltF, c, e2, e3]
      · have c' : ¬ v < 5 := by omega
        have c2 : 7 < v := c
        simp [runF, startD, SR.out, retS, seqS, ifS, setS, dropS, nopS, R.toS, R.bind, pureE, consE, callE, callF, opE, unE, negD, chE, andE, orE, notE, ifE, valT, andT, orT, notT, un1, tupE, dispE, pureL, varE, sized, raiseF, fal, Res.p, Res.l, e1, intD, ltF, gtF, c', c2, eqD_int, e2, e3]
    · obtain ⟨u, h2, e2, u0, u1, o2⟩ := by_ok (m := 8) o1 (by omega)
      obtain ⟨d, e3, w3⟩ := ix_ok (h := h2) (l := (["a", "e", "c", "plus", "do", "many", "abcdefgh", "at"] : List Str).map D.str) u0 (by simpa using u1) (strl_ok (by decide +kernel))
      refine ⟨d, h2, ?_, w3, o2⟩
      have c' : ¬ v < 5 := by omega
      have c2 : ¬ 7 < v := by omega
      have c3 : v < 8 := by omega
      simp only [List.map_cons, List.map_nil] at e3
      simp [runF, startD, SR.out, retS, seqS, ifS, setS, dropS, nopS, R.toS, R.bind, pureE, consE, callE, callF, opE, unE, negD, chE, andE, orE, notE, ifE, valT, andT, orT, notT, un1, tupE, dispE, pureL, varE, sized, raiseF, fal, Res.p, Res.l, e1, intD, ltF, gtF, c', c2, c3, eqD_int, e2, e3]
  | succ m ih =>
    intro i k h o hk
    obtain ⟨k, rfl⟩ : ∃ k', k = k' + 1 := ⟨k - 1, by omega⟩
    obtain ⟨v, h1, e1, v0, v1, o1⟩ := by_ok (m := 12) o (by omega)
    have hm0 : ¬ ((m : Int) + 1 = 0) := by omega
    have hsub : (m : Int) + 1 - 1 = m := by omega
    show ∃ d h', (b__law_worth (l__law_worth k) [some (.ref i), some (.int ((m + 1 : Nat) : Int)), none, none] h).out = .ok d h' ∧ Wd (2 * (m + 1)) d ∧ Okh i h'
    have em : ((m + 1 : Nat) : Int) = (m : Int) + 1 := by omega
    rw [em]
    unfold b__law_worth
    by_cases c1 : v < 5
    · obtain ⟨u, h2, e2, u0, u1, o2⟩ := by_ok (m := 7) o1 (by omega)
      obtain ⟨d, e3, w3⟩ := ix_ok (h := h2) u0 (by simpa using u1) numl_ok
      refine ⟨d, h2, ?_, w3.mono (by omega), o2⟩
      simp [runF, startD, SR.out, retS, seqS, ifS, setS, dropS, nopS, R.toS, R.bind, pureE, consE, callE, callF, opE, unE, negD, chE, andE, orE, notE, ifE, valT, andT, orT, notT, un1, tupE, dispE, pureL, varE, sized, raiseF, fal, Res.p, Res.l, e1, intD, ltF, c1, e2, e3]
    by_cases c2 : v < 8
    · obtain ⟨u, h2, e2, u0, u1, o2⟩ := by_ok (m := 8) o1 (by omega)
      obtain ⟨d, e3, w3⟩ := ix_ok (h := h2) (l := (["a", "e", "c", "plus", "do", "many", "abcdefgh", "at"] : List Str).map D.str) u0 (by simpa using u1) (strl_ok (by decide +kernel))
      refine ⟨d, h2, ?_, w3.mono (by omega), o2⟩
      simp only [List.map_cons, List.map_nil] at e3
      simp [runF, startD, SR.out, retS, seqS, ifS, setS, dropS, nopS, R.toS, R.bind, pureE, consE, callE, callF, opE, unE, negD, chE, andE, orE, notE, ifE, valT, andT, orT, notT, un1, tupE, dispE, pureL, varE, sized, raiseF, fal, Res.p, Res.l, e1, intD, ltF, gtF, c1, c2, hm0, eqD_int, e2, e3]
    by_cases c3 : v = 8
    · obtain ⟨u, h2, e2, u0, u1, o2⟩ := by_ok (m := 2) o1 (by omega)
      obtain ⟨c, e3, hc⟩ : ∃ c : Str, ixD (.lst [.str "c", .str "e"]) (.int u) h2 = .ok (.str c) h2 ∧ c ∈ okw := by
        have : u = 0 ∨ u = 1 := by omega
        rcases this with rfl | rfl
        · exact ⟨"c", rfl, c_in⟩
        · exact ⟨"e", rfl, e_in⟩
      obtain ⟨d, h3, e4, w4, o3⟩ := ih i k h2 o2 (by omega)
      refine ⟨.tup [.str c, d], h3, ?_, (pairW hc w4).mono (by omega), o3⟩
      subst c3
      simp [runF, startD, SR.out, retS, seqS, ifS, setS, dropS, nopS, R.toS, R.bind, pureE, consE, callE, callF, opE, unE, negD, chE, andE, orE, notE, ifE, valT, andT, orT, notT, un1, tupE, dispE, pureL, varE, sized, raiseF, fal, Res.p, Res.l, e1, intD, ltF, gtF, subF, hm0, hsub, eqD_int, e2, e3, e4]
    by_cases c4 : v = 9
    · obtain ⟨d1, h2, e2, w2, o2⟩ := ih i k h1 o1 (by omega)
      obtain ⟨d2, h3, e3, w3, o3⟩ := ih i k h2 o2 (by omega)
      refine ⟨.tup [.tup [.str "c", d1], .tup [.str "c", d2]], h3, ?_, ?_, o3⟩
      · subst c4
        simp [runF, startD, SR.out, retS, seqS, ifS, setS, dropS, nopS, R.toS, R.bind, pureE, consE, callE, callF, opE, unE, negD, chE, andE, orE, notE, ifE, valT, andT, orT, notT, un1, tupE, dispE, pureL, varE, sized, raiseF, fal, Res.p, Res.l, e1, intD, ltF, gtF, subF, hm0, hsub, eqD_int, e2, e3]
      · refine Wd.tup (n := 2 * m + 1) (by simp) fun e he => ?_
        simp at he
        rcases he with rfl | rfl
        · exact pairW c_in w2
        · exact pairW c_in w3
    · obtain ⟨u, h2, e2, u0, u1, o2⟩ := by_ok (m := 4) o1 (by omega)
      obtain ⟨ds, h3, e3, l3, w3, o3⟩ := comp_dr (g := gN 3) (σ := [some (.ref i), some (.int ((m : Int) + 1)), some (.int v), none]) (elt := callF (l__law_worth k) (consE (varE 0) (consE (opE (intD subF) (varE 1) (pureE (.int 1))) (pureE [])))) (i := i) (n := 2 * m) (P := fun σ' => ∃ x, σ' = [some (.ref i), some (.int ((m : Int) + 1)), some (.int v), x]) (fun d => ⟨_, rfl, _, rfl⟩) (fun σ' h hp o => by
        obtain ⟨x, rfl⟩ := hp
        obtain ⟨d, h', e, w, o'⟩ := ih i k h o (by omega)
        refine ⟨d, h', ?_, w, o'⟩
        simp [runF, startD, SR.out, retS, seqS, ifS, setS, dropS, nopS, R.toS, R.bind, pureE, consE, callE, callF, opE, unE, negD, chE, andE, orE, notE, ifE, valT, andT, orT, notT, un1, tupE, dispE, pureL, varE, sized, raiseF, fal, Res.p, Res.l, intD, subF, hsub, e]) (rangeL 0 u.toNat) h2 o2
      have hlen : (rangeL 0 u.toNat).length ≤ 16777216 := by unfold rangeL; simp; omega
      have hds : ds.length ≤ 5000 := by rw [l3]; unfold rangeL; simp; omega
      refine ⟨.tup ds, h3, ?_, (Wd.tup (n := 2 * m) hds w3).mono (by omega), o3⟩
      have hu : -4611686018427387904 ≤ u ∧ u < 4611686018427387904 := by omega
      have ce : compE [3] (rng1E (callF m__law_by (consE (varE 0) (consE (pureE (.int 4)) (pureE []))))) (gN 3) yesE (callF (l__law_worth k) (consE (varE 0) (consE (opE (intD subF) (varE 1) (pureE (.int 1))) (pureE [])))) [some (.ref i), some (.int ((m : Int) + 1)), some (.int v), none] h1 = .ok ds h3 := by
        refine comp_ok (l := rangeL 0 u.toNat) (h1 := h2) ?_ hlen e3
        simp [runF, startD, SR.out, retS, seqS, ifS, setS, dropS, nopS, R.toS, R.bind, pureE, consE, callE, callF, opE, unE, negD, chE, andE, orE, notE, ifE, valT, andT, orT, notT, un1, tupE, dispE, pureL, varE, sized, raiseF, fal, Res.p, Res.l, rng1E, e2, hu]
      generalize hG : (compE [3] (rng1E (callF m__law_by (consE (varE 0) (consE (pureE (.int 4)) (pureE []))))) (gN 3) yesE (callF (l__law_worth k) (consE (varE 0) (consE (opE (intD subF) (varE 1) (pureE (.int 1))) (pureE []))))) = G at ce ⊢
      simp [runF, startD, SR.out, retS, seqS, ifS, setS, dropS, nopS, R.toS, R.bind, pureE, consE, callE, callF, opE, unE, negD, chE, andE, orE, notE, ifE, valT, andT, orT, notT, un1, tupE, dispE, pureL, varE, sized, raiseF, fal, Res.p, Res.l, e1, intD, ltF, gtF, c1, c2, c3, c4, hm0, eqD_int, ce, tupC, lstOf, getO]
end RF

set_option maxRecDepth 100000
set_option maxHeartbeats 1000000
namespace RF
open PySem PySem.Spec
/-! ### fit -/
theorem nums1_ok : ∀ d ∈ [D.int 9999, .int 5000, .int (-5000), .int (-9999), .int 3, .int 0], Wd 0 d := by
  intro d hd
  simp at hd
  rcases hd with rfl | rfl | rfl | rfl | rfl | rfl <;> exact Wd.int (by omega)
theorem nums2_ok : ∀ d ∈ [D.int 9999, .int 1, .int (-1), .int 4999, .int (-4999), .int 0], Wd 0 d := by
  intro d hd
  simp at hd
  rcases hd with rfl | rfl | rfl | rfl | rfl | rfl <;> exact Wd.int (by omega)
/-- which branch a deed takes -/
def cl1 : List Str := ["plus", "minus", "half", "less", "same"]
abbrev fitS : List D → D → D → Int → List D → SL := fun a b c t s => []
/-- what is drawn ahead -/
structure Pre (i : Nat) (x : Str) (h : AH) where
  one : D
  other : D
  turn : Int
  some_ : List D
  h' : AH
  w1 : Wd 4 one
  w2 : Wd 4 other
  t0 : 0 ≤ turn
  t1 : turn < 5
  ws : ∀ d ∈ some_, Wd 2 d
  ls : 1 ≤ some_.length ∧ some_.length ≤ 4
  ok : Okh i h'
theorem worth2 {i : Nat} {h : AH} (o : Okh i h) : ∃ d h', m__law_worth [.ref i, .int 2] h = .ok d h' ∧ Wd 4 d ∧ Okh i h' := by
  unfold m__law_worth
  exact worth_dr 2 i 6 h o (by omega)
theorem worth1 {i : Nat} {h : AH} (o : Okh i h) : ∃ d h', m__law_worth [.ref i, .int 1] h = .ok d h' ∧ Wd 2 d ∧ Okh i h' := by
  unfold m__law_worth
  exact worth_dr 1 i 6 h o (by omega)
/-- the rest of fit, behind what is drawn ahead -/
abbrev fitR (k : Nat) : S1 := (seqS (ifS (valT (opE (eqD false) (varE 4) (pureE (.int 0)))) (retS (tupE (consE (varE 2) (consE (varE 3) (pureE []))))) nopS) (seqS (ifS (valT (opE (inD false) (varE 1) (tupE (consE (pureE (.str "plus")) (consE (pureE (.str "minus")) (consE (pureE (.str "half")) (consE (pureE (.str "less")) (consE (pureE (.str "same")) (pureE []))))))))) (retS (tupE (consE (opE ixD (pureL (dispE (consE (pureE (.int 9999)) (consE (pureE (.int 5000)) (consE (unE negD (pureE (.int 5000))) (consE (unE negD (pureE (.int 9999))) (consE (pureE (.int 3)) (consE (pureE (.int 0)) (pureE []))))))))) (callF m__law_by (consE (varE 0) (consE (pureE (.int 6)) (pureE []))))) (consE (opE ixD (pureL (dispE (consE (pureE (.int 9999)) (consE (pureE (.int 1)) (consE (unE negD (pureE (.int 1))) (consE (pureE (.int 4999)) (consE (unE negD (pureE (.int 4999))) (consE (pureE (.int 0)) (pureE []))))))))) (callF m__law_by (consE (varE 0) (consE (pureE (.int 6)) (pureE []))))) (pureE []))))) nopS) (seqS (ifS (valT (opE (inD false) (varE 1) (tupE (consE (pureE (.str "do")) (consE (pureE (.str "falls")) (pureE [])))))) (seqS (setS 6 (opE ixD (fun _ h => m__law_words [] h) (callF m__law_by (consE (varE 0) (consE (pureE (.int 18)) (pureE [])))))) (seqS (asgS (gTu [(gN 7), (gN 8)]) (ifE (valT (opE (inD true) (varE 6) (tupE (consE (pureE (.str "do")) (consE (pureE (.str "falls")) (pureE [])))))) (callF (l__law_fit k) (consE (varE 0) (consE (varE 6) (pureE [])))) (tupE (consE (varE 2) (consE (varE 3) (pureE [])))))) (retS (tupE (consE (varE 6) (consE (tupE (consE (tupE (consE (pureE (.str "c")) (consE (varE 7) (pureE [])))) (consE (tupE (consE (pureE (.str "c")) (consE (varE 8) (pureE [])))) (pureE [])))) (pureE []))))))) nopS) (seqS (ifS (valT (opE (eqD false) (varE 1) (pureE (.str "fill")))) (seqS (setS 5 (opE addD (varE 5) (tupE (consE (tupE (consE (pureE (.str "e")) (consE (opE (intD subF) (callF m__law_by (consE (varE 0) (consE (pureE (.int 6)) (pureE [])))) (pureE (.int 1))) (pureE [])))) (consE (tupE (consE (pureE (.str "c")) (consE (varE 2) (pureE [])))) (pureE [])))))) (retS (tupE (consE (varE 5) (consE (callE (un1 tupC) (consE (pureL (repN (pureL (dispE (consE (varE 3) (pureE [])))) (callF m__law_by (consE (varE 0) (consE (pureE (.int 5)) (pureE [])))))) (pureE []))) (pureE [])))))) nopS) (seqS (ifS (valT (opE (eqD false) (varE 1) (pureE (.str "put")))) (retS (tupE (consE (varE 5) (consE (tupE (consE (opE (intD subF) (callF m__law_by (consE (varE 0) (consE (pureE (.int 6)) (pureE [])))) (pureE (.int 1))) (consE (varE 3) (pureE [])))) (pureE []))))) nopS) (retS (tupE (consE (varE 5) (consE (ifE (valT (opE (eqD false) (varE 1) (pureE (.str "at")))) (opE (intD subF) (callF m__law_by (consE (varE 0) (consE (pureE (.int 6)) (pureE [])))) (pureE (.int 1))) (ifE (valT (opE (eqD false) (varE 4) (pureE (.int 1)))) (opE addD (slE (varE 5) (pureE none) (partE (pureE (.int 1)))) (tupE (consE (varE 3) (consE (varE 3) (pureE []))))) (varE 3))) (pureE []))))))))))
theorem fit_start {i k : Nat} {x : Str} {h : AH} (o : Okh i h) : ∃ (p : Pre i x h), l__law_fit (k + 1) [.ref i, .str x] h = (fitR k [some (.ref i), some (.str x), some p.one, some p.other, some (.int p.turn), some (.tup p.some_), none, none, none, none] p.h').out := by
  obtain ⟨d1, h1, e1, w1, o1⟩ := worth2 o
  obtain ⟨d2, h2, e2, w2, o2⟩ := worth2 o1
  obtain ⟨t, h3, e3, t0, t1, o3⟩ := by_ok (m := 5) o2 (by omega)
  obtain ⟨u, h4, e4, u0, u1, o4⟩ := by_ok (m := 4) o3 (by omega)
  obtain ⟨ds, h5, e5, l5, w5, o5⟩ := comp_dr (g := gN 9) (σ := [some (.ref i), some (.str x), some d1, some d2, some (.int t), none, none, none, none, none]) (elt := callF m__law_worth (consE (varE 0) (consE (pureE (.int 1)) (pureE [])))) (i := i) (n := 2) (P := fun σ' => ∃ y, σ' = [some (.ref i), some (.str x), some d1, some d2, some (.int t), none, none, none, none, y]) (fun d => ⟨_, rfl, _, rfl⟩) (fun σ' h hp o => by
    obtain ⟨y, rfl⟩ := hp
    obtain ⟨d, h', e, w, o'⟩ := worth1 o
    refine ⟨d, h', ?_, w, o'⟩
    simp [runF, startD, SR.out, retS, seqS, ifS, setS, dropS, nopS, R.toS, R.bind, pureE, consE, callE, callF, opE, unE, negD, chE, andE, orE, notE, ifE, valT, andT, orT, notT, un1, tupE, dispE, pureL, varE, sized, raiseF, fal, Res.p, Res.l, e]) (rangeL 0 (1 + u).toNat) h4 o4
  have hl : (rangeL 0 (1 + u).toNat).length = (1 + u).toNat := by unfold rangeL; simp
  refine ⟨⟨d1, d2, t, ds, h5, w1, w2, t0, t1, w5, by rw [l5, hl]; omega, o5⟩, ?_⟩
  have ce : compE [9] (rng1E (opE addD (pureE (.int 1)) (callF m__law_by (consE (varE 0) (consE (pureE (.int 4)) (pureE [])))))) (gN 9) yesE (callF m__law_worth (consE (varE 0) (consE (pureE (.int 1)) (pureE [])))) [some (.ref i), some (.str x), some d1, some d2, some (.int t), none, none, none, none, none] h3 = .ok ds h5 := by
    have hu : -4611686018427387904 ≤ 1 + u ∧ 1 + u < 4611686018427387904 := by omega
    refine comp_ok (l := rangeL 0 (1 + u).toNat) (h1 := h4) ?_ (by rw [hl]; omega) e5
    simp [runF, startD, SR.out, retS, seqS, ifS, setS, dropS, nopS, R.toS, R.bind, pureE, consE, callE, callF, opE, unE, negD, chE, andE, orE, notE, ifE, valT, andT, orT, notT, un1, tupE, dispE, pureL, varE, sized, raiseF, fal, Res.p, Res.l, rng1E, e4, hu, addD]
  show (b__law_fit (l__law_fit k) [some (.ref i), some (.str x), none, none, none, none, none, none, none, none] h).out = _
  unfold b__law_fit
  generalize hG : (compE [9] (rng1E (opE addD (pureE (.int 1)) (callF m__law_by (consE (varE 0) (consE (pureE (.int 4)) (pureE [])))))) (gN 9) yesE (callF m__law_worth (consE (varE 0) (consE (pureE (.int 1)) (pureE []))))) = G at ce ⊢
  have s1 : par3 2 3 4 (consE (callF m__law_worth (consE (varE 0) (consE (pureE (.int 2)) (pureE [])))) (consE (callF m__law_worth (consE (varE 0) (consE (pureE (.int 2)) (pureE [])))) (consE (callF m__law_by (consE (varE 0) (consE (pureE (.int 5)) (pureE [])))) (pureE [])))) [some (.ref i), some (.str x), none, none, none, none, none, none, none, none] h = .nx [some (.ref i), some (.str x), some d1, some d2, some (.int t), none, none, none, none, none] h3 := by
    simp [runF, startD, SR.out, retS, seqS, ifS, setS, dropS, nopS, R.toS, R.bind, pureE, consE, callE, callF, opE, unE, negD, chE, andE, orE, notE, ifE, valT, andT, orT, notT, un1, tupE, dispE, pureL, varE, sized, raiseF, fal, Res.p, Res.l, par3, e1, e2, e3]
  have s2 : setS 5 (callE (un1 tupC) (consE (pureL G) (pureE []))) [some (.ref i), some (.str x), some d1, some d2, some (.int t), none, none, none, none, none] h3 = .nx [some (.ref i), some (.str x), some d1, some d2, some (.int t), some (.tup ds), none, none, none, none] h5 := by
    simp [runF, startD, SR.out, retS, seqS, ifS, setS, dropS, nopS, R.toS, R.bind, pureE, consE, callE, callF, opE, unE, negD, chE, andE, orE, notE, ifE, valT, andT, orT, notT, un1, tupE, dispE, pureL, varE, sized, raiseF, fal, Res.p, Res.l, ce, tupC, lstOf, getO]
  have sq : ∀ (A B : S1) (σ σ1 : SL) (h h1 : AH), A σ h = .nx σ1 h1 → seqS A B σ h = B σ1 h1 := fun A B σ σ1 h h1 e => by unfold seqS; rw [e]
  rw [sq _ _ _ _ _ _ s1, sq _ _ _ _ _ _ s2]
/-- a good end of fit -/
def FitE (m i : Nat) (r : R D) : Prop := ∃ a b h', r = .ok (.tup [a, b]) h' ∧ Wd m a ∧ Wd m b ∧ Okh i h'
theorem minus1 {v : Int} (h0 : 0 ≤ v) (h1 : v < 6) {n : Nat} : Wd n (.int (v - 1)) := Wd.int (by omega)
theorem fit_plain {i k : Nat} {x : Str} {h : AH} (o : Okh i h) (hx : x ∈ deeds) (hd : x ≠ "do" ∧ x ≠ "falls") : FitE 6 i (l__law_fit (k + 1) [.ref i, .str x] h) := by
  obtain ⟨p, e⟩ := fit_start (k := k) (x := x) o
  obtain ⟨one, other, t, s, h1, w1, w2, t0, t1, ws, ls, o1⟩ := p
  rw [e]
  simp only
  have sW : Wd 6 (.tup s) := (Wd.tup (n := 2) (by omega) ws).mono (by omega)
  have z0 : s.length + 2 ≤ 16777216 := by omega
  by_cases ht : t = 0
  · refine ⟨one, other, h1, ?_, w1.mono (by omega), w2.mono (by omega), o1⟩
    subst ht
    simp [runF, startD, SR.out, retS, seqS, ifS, setS, dropS, nopS, R.toS, R.bind, pureE, consE, callE, callF, opE, unE, negD, chE, andE, orE, notE, ifE, valT, andT, orT, notT, un1, tupE, dispE, pureL, varE, sized, raiseF, fal, Res.p, Res.l, eqD_int]
  obtain ⟨v, h2, e2, v0, v1, o2⟩ := by_ok (m := 6) o1 (by omega)
  obtain ⟨v', h3, e3, v0', v1', o3⟩ := by_ok (m := 6) o2 (by omega)
  obtain ⟨u, h4, e4, u0, u1, o4⟩ := by_ok (m := 5) o2 (by omega)
  have t1T : (valT (opE (eqD false) (varE 4) (pureE (.int 0)))) [some (.ref i), some (.str x), some one, some other, some (.int t), some (.tup s), none, none, none, none] h1 = .ok false h1 := by
    simp [runF, startD, SR.out, retS, seqS, ifS, setS, dropS, nopS, R.toS, R.bind, pureE, consE, callE, callF, opE, unE, negD, chE, andE, orE, notE, ifE, valT, andT, orT, notT, un1, tupE, dispE, pureL, varE, sized, raiseF, fal, Res.p, Res.l, eqD_int, ht]
  have sumC : x ∈ cl1 → FitE 6 i (fitR k [some (.ref i), some (.str x), some one, some other, some (.int t), some (.tup s), none, none, none, none] h1).out := fun hc => by
    obtain ⟨d1, f1, g1⟩ := ix_ok (h := h2) v0 (by simpa using v1) nums1_ok
    obtain ⟨d2, f2, g2⟩ := ix_ok (h := h3) v0' (by simpa using v1') nums2_ok
    refine ⟨d1, d2, h3, ?_, g1.mono (by omega), g2.mono (by omega), o3⟩
    unfold fitR
    rw [seq_skip t1T]
    simp only [cl1, List.mem_cons, List.not_mem_nil, or_false] at hc
    have t2 : (valT (opE (inD false) (varE 1) (tupE (consE (pureE (.str "plus")) (consE (pureE (.str "minus")) (consE (pureE (.str "half")) (consE (pureE (.str "less")) (consE (pureE (.str "same")) (pureE []))))))))) [some (.ref i), some (.str x), some one, some other, some (.int t), some (.tup s), none, none, none, none] h1 = .ok true h1 := by
      rcases hc with rfl | rfl | rfl | rfl | rfl <;> kernel_rfl
    rw [seq_ret t2]
    simp [runF, startD, SR.out, retS, seqS, ifS, setS, dropS, nopS, R.toS, R.bind, pureE, consE, callE, callF, opE, unE, negD, chE, andE, orE, notE, ifE, valT, andT, orT, notT, un1, tupE, dispE, pureL, varE, sized, raiseF, fal, Res.p, Res.l, e2, e3, f1, f2]
  have lastC : x ≠ "at" → x ∈ (["copy", "kind", "many", "add", "pair", "union", "counts", "spread"] : List Str) → FitE 6 i (fitR k [some (.ref i), some (.str x), some one, some other, some (.int t), some (.tup s), none, none, none, none] h1).out := fun ha hc => by
    have key : fitR k [some (.ref i), some (.str x), some one, some other, some (.int t), some (.tup s), none, none, none, none] h1 = retS (tupE (consE (varE 5) (consE (ifE (valT (opE (eqD false) (varE 1) (pureE (.str "at")))) (opE (intD subF) (callF m__law_by (consE (varE 0) (consE (pureE (.int 6)) (pureE [])))) (pureE (.int 1))) (ifE (valT (opE (eqD false) (varE 4) (pureE (.int 1)))) (opE addD (slE (varE 5) (pureE none) (partE (pureE (.int 1)))) (tupE (consE (varE 3) (consE (varE 3) (pureE []))))) (varE 3))) (pureE [])))) [some (.ref i), some (.str x), some one, some other, some (.int t), some (.tup s), none, none, none, none] h1 := by
      unfold fitR
      rw [seq_skip t1T]
      simp only [List.mem_cons, List.not_mem_nil, or_false] at hc
      rcases hc with rfl | rfl | rfl | rfl | rfl | rfl | rfl | rfl <;>
        rw [seq_skip (by kernel_rfl), seq_skip (by kernel_rfl), seq_skip (by kernel_rfl), seq_skip (by kernel_rfl)]
    have qa : eqD false (.str x) (.str "at") h1 = .ok (.bl false) h1 := by
      simp only [List.mem_cons, List.not_mem_nil, or_false] at hc
      rcases hc with rfl | rfl | rfl | rfl | rfl | rfl | rfl | rfl <;> kernel_rfl
    rw [key, last_ret]
    by_cases h1t : t = 1
    · have hcl : (cut s none (some 1)).length ≤ s.length := cut_len
      have zz : (cut s none (some 1)).length + 2 ≤ 16777216 := by omega
      refine ⟨.tup s, .tup (cut s none (some 1) ++ [other, other]), h1, ?_, sW, ?_, o1⟩
      · subst h1t
        simp [runF, startD, SR.out, retS, seqS, ifS, setS, dropS, nopS, R.toS, R.bind, pureE, consE, callE, callF, opE, unE, negD, chE, andE, orE, notE, ifE, valT, andT, orT, notT, un1, tupE, dispE, pureL, varE, sized, raiseF, fal, Res.p, Res.l, qa, eqD_int, slE, partE, slD, addD, zz]
      · refine (Wd.tup (n := 4) (by simp; omega) fun e he => ?_).mono (by omega)
        simp at he
        rcases he with he | rfl | rfl
        · exact (ws e (cut_mem he)).mono (by omega)
        · exact w2
    · refine ⟨.tup s, other, h1, ?_, sW, w2.mono (by omega), o1⟩
      simp [runF, startD, SR.out, retS, seqS, ifS, setS, dropS, nopS, R.toS, R.bind, pureE, consE, callE, callF, opE, unE, negD, chE, andE, orE, notE, ifE, valT, andT, orT, notT, un1, tupE, dispE, pureL, varE, sized, raiseF, fal, Res.p, Res.l, qa, eqD_int, h1t]
  simp only [deeds, List.mem_cons, List.not_mem_nil, or_false] at hx
  rcases hx with rfl | rfl | rfl | rfl | rfl | rfl | rfl | rfl | rfl | rfl | rfl | rfl | rfl | rfl | rfl | rfl | rfl | rfl
  · exact lastC (by decide +kernel) (by decide +kernel)
  · exact sumC (by decide +kernel)
  · exact sumC (by decide +kernel)
  · exact sumC (by decide +kernel)
  · exact sumC (by decide +kernel)
  · exact sumC (by decide +kernel)
  · exact lastC (by decide +kernel) (by decide +kernel)
  · exact lastC (by decide +kernel) (by decide +kernel)
  · -- at
    refine ⟨.tup s, .int (v - 1), h2, ?_, sW, minus1 v0 v1, o2⟩
    unfold fitR
    rw [seq_skip t1T, seq_skip (by kernel_rfl), seq_skip (by kernel_rfl), seq_skip (by kernel_rfl), seq_skip (by kernel_rfl), last_ret]
    have qa : eqD false (.str "at") (.str "at") h1 = .ok (.bl true) h1 := by kernel_rfl
    simp [runF, startD, SR.out, retS, seqS, ifS, setS, dropS, nopS, R.toS, R.bind, pureE, consE, callE, callF, opE, unE, negD, chE, andE, orE, notE, ifE, valT, andT, orT, notT, un1, tupE, dispE, pureL, varE, sized, raiseF, fal, Res.p, Res.l, qa, e2, intD, subF]
  · exact lastC (by decide +kernel) (by decide +kernel)
  · -- put
    refine ⟨.tup s, .tup [.int (v - 1), other], h2, ?_, sW, (Wd.tup (n := 4) (by simp) fun e he => ?_).mono (by omega), o2⟩
    · unfold fitR
      rw [seq_skip t1T, seq_skip (by kernel_rfl), seq_skip (by kernel_rfl), seq_skip (by kernel_rfl), seq_ret (by kernel_rfl)]
      simp [runF, startD, SR.out, retS, seqS, ifS, setS, dropS, nopS, R.toS, R.bind, pureE, consE, callE, callF, opE, unE, negD, chE, andE, orE, notE, ifE, valT, andT, orT, notT, un1, tupE, dispE, pureL, varE, sized, raiseF, fal, Res.p, Res.l, e2, intD, subF]
    · simp at he
      rcases he with rfl | rfl
      · exact minus1 v0 v1
      · exact w2
  · exact lastC (by decide +kernel) (by decide +kernel)
  · exact lastC (by decide +kernel) (by decide +kernel)
  · exact lastC (by decide +kernel) (by decide +kernel)
  · exact lastC (by decide +kernel) (by decide +kernel)
  · -- fill
    have hu : -9223372036854775808 ≤ u ∧ u < 9223372036854775808 := by omega
    have zr : 1 * u.toNat ≤ 16777216 := by omega
    have zr' : u.toNat ≤ 16777216 := by omega
    refine ⟨.tup (s ++ [.tup [.str "e", .int (v - 1)], .tup [.str "c", one]]), .tup (repL [other] u.toNat), h4, ?_, ?_, ?_, o4⟩
    · unfold fitR
      rw [seq_skip t1T, seq_skip (by kernel_rfl), seq_skip (by kernel_rfl), seq_in (by kernel_rfl)]
      simp [runF, startD, SR.out, retS, seqS, ifS, setS, dropS, nopS, R.toS, R.bind, pureE, consE, callE, callF, opE, unE, negD, chE, andE, orE, notE, ifE, valT, andT, orT, notT, un1, tupE, dispE, pureL, varE, sized, raiseF, fal, Res.p, Res.l, e2, e4, intD, subF, addD, z0, repN, catOf, getR, hu, zr, zr', tupC, lstOf, getO]
    · refine Wd.tup (n := 5) (by simp; omega) fun e he => ?_
      simp at he
      rcases he with he | rfl | rfl
      · exact (ws e he).mono (by omega)
      · exact pairW (n := 4) e_in (minus1 v0 v1)
      · exact pairW c_in w1
    · refine (Wd.tup (n := 4) ?_ fun e he => ?_).mono (by omega)
      · unfold repL
        simp
        omega
      · unfold repL at he
        simp at he
        rw [he.2]
        exact w2
  · exact absurd rfl hd.1
  · exact absurd rfl hd.2
theorem fit_ok {i k : Nat} {x : Str} {h : AH} (o : Okh i h) (hx : x ∈ deeds) : FitE 8 i (l__law_fit (k + 2) [.ref i, .str x] h) := by
  by_cases hd : x ≠ "do" ∧ x ≠ "falls"
  · obtain ⟨a, b, h', e, wa, wb, o'⟩ := fit_plain (k := k + 1) o hx hd
    exact ⟨a, b, h', e, wa.mono (by omega), wb.mono (by omega), o'⟩
  · have hd' : x = "do" ∨ x = "falls" := by
      by_cases h1 : x = "do"
      · exact .inl h1
      · by_cases h2 : x = "falls"
        · exact .inr h2
        · exact absurd ⟨h1, h2⟩ hd
    obtain ⟨p, e⟩ := fit_start (k := k + 1) (x := x) o
    obtain ⟨one, other, t, s, h1, w1, w2, t0, t1, ws, ls, o1⟩ := p
    rw [e]
    simp only
    by_cases ht : t = 0
    · refine ⟨one, other, h1, ?_, w1.mono (by omega), w2.mono (by omega), o1⟩
      subst ht
      simp [runF, startD, SR.out, retS, seqS, ifS, setS, dropS, nopS, R.toS, R.bind, pureE, consE, callE, callF, opE, unE, negD, chE, andE, orE, notE, ifE, valT, andT, orT, notT, un1, tupE, dispE, pureL, varE, sized, raiseF, fal, Res.p, Res.l, eqD_int]
    have t1T : (valT (opE (eqD false) (varE 4) (pureE (.int 0)))) [some (.ref i), some (.str x), some one, some other, some (.int t), some (.tup s), none, none, none, none] h1 = .ok false h1 := by
      simp [runF, startD, SR.out, retS, seqS, ifS, setS, dropS, nopS, R.toS, R.bind, pureE, consE, callE, callF, opE, unE, negD, chE, andE, orE, notE, ifE, valT, andT, orT, notT, un1, tupE, dispE, pureL, varE, sized, raiseF, fal, Res.p, Res.l, eqD_int, ht]
    obtain ⟨v, h2, e2, v0, v1, o2⟩ := by_ok (m := 18) o1 (by omega)
    obtain ⟨y, ey, hy⟩ : ∃ y, L2.atI (deeds.map D.str) v = some (.str y) ∧ y ∈ deeds := by
      obtain ⟨d, ed, hd⟩ := at_in (l := deeds.map D.str) v0 (by simpa [deeds] using v1)
      obtain ⟨y, hy, rfl⟩ := List.mem_map.mp hd
      exact ⟨y, ed, hy⟩
    have hyo := deeds_okw hy
    have qy : ∀ h, inD true (.str y) (.tup [.str "do", .str "falls"]) h = .ok (.bl (!decide (y = "do" ∨ y = "falls"))) h := fun h => by
      have := inD_tup (n := 0) (m := 0) (b := true) (h := h) (x := .str y) (l := (["do", "falls"] : List Str).map D.str) (Wd.str hyo) (strl_ok (by decide +kernel)) (by omega)
      rw [pd_str hyo, strs_any (["do", "falls"] : List Str) (by decide +kernel)] at this
      simp only [List.map_cons, List.map_nil] at this
      rw [this]
      simp
    have fin : ∀ (a b : D) (h3 : AH), Wd 6 a → Wd 6 b → Okh i h3 → (ifE (valT (opE (inD true) (varE 6) (tupE (consE (pureE (.str "do")) (consE (pureE (.str "falls")) (pureE [])))))) (callF (l__law_fit (k + 1)) (consE (varE 0) (consE (varE 6) (pureE [])))) (tupE (consE (varE 2) (consE (varE 3) (pureE []))))) [some (.ref i), some (.str x), some one, some other, some (.int t), some (.tup s), some (.str y), none, none, none] h2 = .ok (.tup [a, b]) h3 →
        FitE 8 i (fitR (k + 1) [some (.ref i), some (.str x), some one, some other, some (.int t), some (.tup s), none, none, none, none] h1).out := fun a b h3 wa wb o3 ef => by
      refine ⟨.str y, .tup [.tup [.str "c", a], .tup [.str "c", b]], h3, ?_, Wd.str hyo, (Wd.tup (n := 7) (by simp) fun e he => ?_).mono (by omega), o3⟩
      · unfold fitR
        generalize hG : (ifE (valT (opE (inD true) (varE 6) (tupE (consE (pureE (.str "do")) (consE (pureE (.str "falls")) (pureE [])))))) (callF (l__law_fit (k + 1)) (consE (varE 0) (consE (varE 6) (pureE [])))) (tupE (consE (varE 2) (consE (varE 3) (pureE []))))) = G at ef ⊢
        rw [seq_skip t1T]
        rcases hd' with rfl | rfl
        · rw [seq_skip (by kernel_rfl), seq_in (by kernel_rfl)]
          simp [runF, startD, SR.out, retS, seqS, ifS, setS, dropS, nopS, R.toS, R.bind, pureE, consE, callE, callF, opE, unE, negD, chE, andE, orE, notE, ifE, valT, andT, orT, notT, un1, tupE, dispE, pureL, varE, sized, raiseF, fal, Res.p, Res.l, words_ok, e2, ixD, lstOf, getO, ey, asgS, ef, gTu, gL, gN]
        · rw [seq_skip (by kernel_rfl), seq_in (by kernel_rfl)]
          simp [runF, startD, SR.out, retS, seqS, ifS, setS, dropS, nopS, R.toS, R.bind, pureE, consE, callE, callF, opE, unE, negD, chE, andE, orE, notE, ifE, valT, andT, orT, notT, un1, tupE, dispE, pureL, varE, sized, raiseF, fal, Res.p, Res.l, words_ok, e2, ixD, lstOf, getO, ey, asgS, ef, gTu, gL, gN]
      · simp at he
        rcases he with rfl | rfl
        · exact pairW c_in wa
        · exact pairW c_in wb
    by_cases hyd : y = "do" ∨ y = "falls"
    · refine fin one other h2 (w1.mono (by omega)) (w2.mono (by omega)) o2 ?_
      simp [runF, startD, SR.out, retS, seqS, ifS, setS, dropS, nopS, R.toS, R.bind, pureE, consE, callE, callF, opE, unE, negD, chE, andE, orE, notE, ifE, valT, andT, orT, notT, un1, tupE, dispE, pureL, varE, sized, raiseF, fal, Res.p, Res.l, qy, hyd]
    · have hyd' : y ≠ "do" ∧ y ≠ "falls" := ⟨fun z => hyd (.inl z), fun z => hyd (.inr z)⟩
      obtain ⟨a, b, h3, e3, wa, wb, o3⟩ := fit_plain (k := k) o2 hy hyd'
      refine fin a b h3 wa wb o3 ?_
      simp [runF, startD, SR.out, retS, seqS, ifS, setS, dropS, nopS, R.toS, R.bind, pureE, consE, callE, callF, opE, unE, negD, chE, andE, orE, notE, ifE, valT, andT, orT, notT, un1, tupE, dispE, pureL, varE, sized, raiseF, fal, Res.p, Res.l, qy, hyd, e3]
end RF

set_option maxRecDepth 100000
set_option maxHeartbeats 1000000
namespace RF
open PySem PySem.Spec
theorem sqN {A B : S1} {σ σ1 : SL} {h h1 : AH} (e : A σ h = .nx σ1 h1) : seqS A B σ h = B σ1 h1 := by unfold seqS; rw [e]
theorem for_inv {g : G1} {body : S1} {I : List D → SL → AH → Prop} (step : ∀ d l σ h, I (d :: l) σ h → ∃ σ1, g d σ = some σ1 ∧ ∃ σ2 h2, (body σ1 h = .nx σ2 h2 ∨ body σ1 h = .ct σ2 h2) ∧ I l σ2 h2) : ∀ (l : List D) (σ : SL) (h : AH), I l σ h → ∃ σ' h', forL g body l σ h = .nx σ' h' ∧ I [] σ' h'
  | [], σ, h, i => ⟨σ, h, rfl, i⟩
  | d :: l, σ, h, i => by
    obtain ⟨σ1, e1, σ2, h2, e2, i2⟩ := step d l σ h i
    obtain ⟨σ', h', e3, i3⟩ := for_inv step l σ2 h2 i2
    refine ⟨σ', h', ?_, i3⟩
    unfold forL
    rw [e1]
    rcases e2 with e2 | e2 <;> simp only [e2, e3]
theorem for_ok {src : E1 (List D)} {g : G1} {body : S1} {σ σ' : SL} {h h1 h' : AH} {l : List D} (es : src σ h = .ok l h1) (ef : forL g body l σ h1 = .nx σ' h') : forS src g body σ h = .nx σ' h' := by unfold forS; rw [es]; exact ef
theorem range_mem {lo : Int} {n : Nat} {d : D} (hd : d ∈ rangeL lo n) : ∃ i : Nat, i < n ∧ d = .int (lo + i) := by
  unfold rangeL at hd
  simp at hd
  obtain ⟨i, hi, e⟩ := hd
  exact ⟨i, hi, e.symm⟩
/-! ### cells, draws -/
def scr (ns : List Int) : D := .frz (ns.map D.int)
theorem cell_ok (ns : List Int) (k : Int) (hk : 0 ≤ k) (h : AH) : ∃ c, m__law_cell_at [scr ns, .int k] h = .ok (.int c) h := by
  have hi : Ints (ns.map D.int) := fun d hd => by
    obtain ⟨i, _, rfl⟩ := List.mem_map.mp hd
    exact ⟨i, rfl⟩
  by_cases h1 : k < (ns.map D.int).length
  · obtain ⟨d, ed, hd⟩ := at_in hk h1
    obtain ⟨c, rfl⟩ := hi d hd
    refine ⟨c, ?_⟩
    have h1' : k < (ns.length : Int) := by simpa using h1
    simp [runF, startD, SR.out, retS, seqS, ifS, setS, dropS, nopS, R.toS, R.bind, pureE, consE, callE, callF, opE, unE, negD, chE, andE, orE, notE, ifE, valT, andT, orT, notT, un1, tupE, dispE, pureL, varE, sized, raiseF, fal, Res.p, Res.l, m__law_cell_at, b__law_cell_at, scr, lenD, lstOf, getO, intD, ltF, h1', ixD, ed]
  · have h1' : ¬ k < (ns.length : Int) := by simpa using h1
    cases ns with
    | nil =>
      refine ⟨k * 48271, ?_⟩
      have q : eqD false (.frz []) (.lst []) h = .ok (.bl true) h := by kernel_rfl
      have hk' : ¬ k < 0 := by omega
      simp [runF, startD, SR.out, retS, seqS, ifS, setS, dropS, nopS, R.toS, R.bind, pureE, consE, callE, callF, opE, unE, negD, chE, andE, orE, notE, ifE, valT, andT, orT, notT, un1, tupE, dispE, pureL, varE, sized, raiseF, fal, Res.p, Res.l, m__law_cell_at, b__law_cell_at, scr, lenD, lstOf, getO, intD, ltF, hk', q, mulF]
    | cons n ns =>
      have hp : (0 : Int) < ((n :: ns).length : Nat) := by rw [List.length_cons]; omega
      have hm0 := Int.emod_nonneg k (b := ((n :: ns).length : Nat)) (by omega)
      have hm1 := Int.emod_lt_of_pos k hp
      obtain ⟨d, ed, hd⟩ := at_in (l := (n :: ns).map D.int) hm0 (by rw [List.length_map]; exact hm1)
      obtain ⟨c, rfl⟩ := hi d hd
      refine ⟨(c + k) * 48271 % 2147483647, ?_⟩
      have q : eqD false (.frz ((n :: ns).map D.int)) (.lst []) h = .ok (.bl false) h := by
        unfold eqD
        have e : toPy h (.frz ((n :: ns).map D.int)) = some (.list (((n :: ns).map D.int).map Pd)) := by
          show (toPys0 ((n :: ns).map D.int)).map PyData.list = _
          rw [pys_ints hi]
          rfl
        rw [e]
        have hd : Nat.ble (min (PyData.depth (.list (((n :: ns).map D.int).map Pd))) (PyData.depth (.list []))) 64 = true := by
          refine Nat.ble_eq.mpr ?_
          show min _ 1 ≤ 64
          omega
        show (if Nat.ble (min (PyData.depth (.list (((n :: ns).map D.int).map Pd))) (PyData.depth (.list []))) 64 = true then R.ok (D.bl (false ^^ PyData.eqv (.list (((n :: ns).map D.int).map Pd)) (.list []))) h else .stuck) = _
        rw [if_pos hd]
        rfl
      simp only [List.map_cons, List.length_cons] at q ed hp hm0 hm1
      have h1'' : ¬ k < ((ns.length + 1 : Nat) : Int) := by simpa using h1'
      have hp' : (0 : Int) < ((ns.length : Int) + 1) := by omega
      have e1 : ((ns.length + 1 : Nat) : Int) = (ns.length : Int) + 1 := by omega
      rw [e1] at ed h1''
      simp [runF, startD, SR.out, retS, seqS, ifS, setS, dropS, nopS, R.toS, R.bind, pureE, consE, callE, callF, opE, unE, negD, chE, andE, orE, notE, ifE, valT, andT, orT, notT, un1, tupE, dispE, pureL, varE, sized, raiseF, fal, Res.p, Res.l, m__law_cell_at, b__law_cell_at, scr, lenD, lstOf, getO, intD, ltF, h1'', q, modF, hp', ixD, ed, addD, mulF]
def h120 : List D := [.int 120, .int 120, .int 120, .int 120, .int 120, .int 120]
theorem numbers_ok (c : Int) (h : AH) : ∃ ds, m__law_numbers [.int c, .lst h120] h = .ok (.ref h.length) (h ++ [.lst ds]) ∧ Ints ds ∧ ds.length ≤ 6 := by
  have pw : powF 10 18 = some (.int 1000000000000000000) := by kernel_rfl
  have s2 : ∃ r, seqS (setS 2 (varE 0)) (seqS (ifS (valT (opE (intD ltF) (varE 0) (opE (intD powF) (pureE (.int 10)) (pureE (.int 18))))) (setS 2 (opE (intD fdivF) (opE (intD powF) (opE addD (opE (intD mulF) (opE (intD modF) (varE 0) (pureE (.int 2147483647))) (pureE (.int 48271))) (pureE (.int 12345))) (pureE (.int 5))) (pureE (.int 1013)))) nopS) (setS 3 (newL (dispE (pureE []))))) [some (.int c), some (.lst h120), none, none] h = .nx [some (.int c), some (.lst h120), some (.int r), some (.ref h.length)] (h ++ [.lst []]) := by
    by_cases hc : c < 1000000000000000000
    · have p1 : 0 ≤ c % 2147483647 := Int.emod_nonneg _ (by omega)
      have p2 : c % 2147483647 < 2147483647 := Int.emod_lt_of_pos _ (by omega)
      have p3 : (c % 2147483647 * 48271 + 12345).natAbs < 18446744073709551616 := by omega
      refine ⟨(c % 2147483647 * 48271 + 12345) ^ 5 / 1013, ?_⟩
      have pw5 : powF (c % 2147483647 * 48271 + 12345) 5 = some (.int ((c % 2147483647 * 48271 + 12345) ^ 5)) := by
        unfold powF
        rw [if_pos ⟨by omega, by omega, p3⟩]
        rfl
      simp [runF, startD, SR.out, retS, seqS, ifS, setS, dropS, nopS, R.toS, R.bind, pureE, consE, callE, callF, opE, unE, negD, chE, andE, orE, notE, ifE, valT, andT, orT, notT, un1, tupE, dispE, pureL, varE, sized, raiseF, fal, Res.p, Res.l, intD, pw, ltF, hc, modF, mulF, addD, pw5, fdivF, newL]
    · refine ⟨c, ?_⟩
      simp [runF, startD, SR.out, retS, seqS, ifS, setS, dropS, nopS, R.toS, R.bind, pureE, consE, callE, callF, opE, unE, negD, chE, andE, orE, notE, ifE, valT, andT, orT, notT, un1, tupE, dispE, pureL, varE, sized, raiseF, fal, Res.p, Res.l, intD, pw, ltF, hc, newL]
  obtain ⟨r, s2⟩ := s2
  have lp := for_inv (g := gN 1) (body := seqS (dropS (appL (varE 3) (opE (intD modF) (callE (un1 intC) (consE (varE 2) (pureE []))) (varE 1)))) (setS 2 (opE (intD fdivF) (varE 2) (varE 1))))
    (I := fun l σ h' => (∀ d ∈ l, d = .int 120) ∧ ∃ x1 r acc, σ = [some (.int c), x1, some (.int r), some (.ref h.length)] ∧ h' = h ++ [.lst acc] ∧ Ints acc ∧ acc.length + l.length ≤ 6) (by
      rintro d l σ h' ⟨hl, x1, r, acc, rfl, rfl, ia, la⟩
      cases hl d List.mem_cons_self
      have hz : Nat.blt acc.length 16777216 = true := by
        simp only [List.length_cons] at la
        simp [Nat.blt]
        omega
      refine ⟨_, rfl, [some (.int c), some (.int 120), some (.int (r / 120)), some (.ref h.length)], h ++ [.lst (acc ++ [.int (r % 120)])], .inl ?_, fun d hd => hl d (List.mem_cons_of_mem _ hd), _, _, _, rfl, rfl, ?_, ?_⟩
      · simp [runF, startD, SR.out, retS, seqS, ifS, setS, dropS, nopS, R.toS, R.bind, pureE, consE, callE, callF, opE, unE, negD, chE, andE, orE, notE, ifE, valT, andT, orT, notT, un1, tupE, dispE, pureL, varE, sized, raiseF, fal, Res.p, Res.l, appL, isL, lstAt, getR, intC, intD, modF, fdivF, hz]
      · intro d hd
        rcases List.mem_append.mp hd with hd | hd
        · exact ia d hd
        · exact ⟨_, List.mem_singleton.mp hd⟩
      · simp only [List.length_cons, List.length_append, List.length_nil] at la ⊢
        omega) h120 [some (.int c), some (.lst h120), some (.int r), some (.ref h.length)] (h ++ [.lst []]) ⟨by
          intro d hd
          simp only [h120, List.mem_cons, List.not_mem_nil, or_false] at hd
          rcases hd with rfl | rfl | rfl | rfl | rfl | rfl <;> rfl, _, _, _, rfl, rfl, fun d hd => by simp at hd, by simp [h120]⟩
  obtain ⟨σ', h', e, _, x1, r', acc, rfl, rfl, ia, la⟩ := lp
  refine ⟨acc, ?_, ia, by simpa using la⟩
  show (b__law_numbers [some (.int c), some (.lst h120), none, none] h).out = _
  unfold b__law_numbers
  have assoc : ∀ (A B C : S1) (σ : SL) (h : AH), seqS A (seqS B C) σ h = seqS (seqS A B) C σ h := fun A B C σ h => by
    unfold seqS
    cases A σ h <;> rfl
  have s3 : ∀ (A B C E : S1) (σ σ1 : SL) (h h1 : AH), seqS A (seqS B C) σ h = .nx σ1 h1 → seqS A (seqS B (seqS C E)) σ h = E σ1 h1 := fun A B C E σ σ1 h h1 e => by
    rw [show seqS B (seqS C E) = seqS (seqS B C) E from funext fun σ => funext fun h => assoc B C E σ h, assoc]
    exact sqN e
  rw [s3 _ _ _ _ _ _ _ _ s2, sqN (for_ok (l := h120) (h1 := h ++ [.lst []]) (seqE_ok (d := .lst h120) rfl rfl) e), last_ret]
  rfl
theorem draws_ok (ns : List Int) (at_ : Int) (h0 : 0 ≤ at_) (h : AH) : ∃ i h', m__law_draws [scr ns, .int at_, .int 5] h = .ok (.ref i) h' ∧ Okh i h' := by
  have lp := for_inv (g := gN 4) (body := setS 3 (newL (catN (varE 3) (callF m__law_numbers (consE (callF m__law_cell_at (consE (varE 0) (consE (opE addD (varE 1) (varE 4)) (pureE [])))) (consE (pureL (dispE (consE (pureE (.int 120)) (consE (pureE (.int 120)) (consE (pureE (.int 120)) (consE (pureE (.int 120)) (consE (pureE (.int 120)) (consE (pureE (.int 120)) (pureE []))))))))) (pureE [])))))))
    (I := fun l σ h' => (∀ d ∈ l, ∃ k : Nat, d = .int (0 + k)) ∧ ∃ x4 j acc, σ = [some (scr ns), some (.int at_), some (.int 5), some (.ref j), x4] ∧ h'[j]? = some (.lst acc) ∧ Ints acc ∧ acc.length + 6 * l.length ≤ 30) (by
      rintro d l σ h' ⟨hl, x4, j, acc, rfl, ej, ia, la⟩
      obtain ⟨k, rfl⟩ := hl d List.mem_cons_self
      obtain ⟨c, ec⟩ := cell_ok ns (at_ + (0 + k)) (by omega) h'
      obtain ⟨ds, en, is, ln⟩ := numbers_ok c h'
      have hlt := (List.getElem?_eq_some_iff.mp ej).1
      have ej' : (h' ++ [O.lst ds])[j]? = some (.lst acc) := by rw [List.getElem?_append_left hlt]; exact ej
      have hz : acc.length + ds.length ≤ 16777216 := by simp only [List.length_cons] at la; omega
      simp only [h120] at en
      refine ⟨_, rfl, [some (scr ns), some (.int at_), some (.int 5), some (.ref (h'.length + 1)), some (.int (0 + k))], h' ++ [.lst ds] ++ [.lst (acc ++ ds)], .inl ?_, fun d hd => hl d (List.mem_cons_of_mem _ hd), _, _, acc ++ ds, rfl, ?_, ?_, ?_⟩
      · simp only [setS, newL, catN, varE, consE, callF, opE, pureE, pureL, dispE, R.bind, R.toS, addD, sized, List.length_cons, List.length_nil, List.getElem?_cons_zero, List.getElem?_cons_succ, ec, en, List.set_cons_succ, List.set_cons_zero]
        simp only [show Nat.ble (0 + 1 + 1 + 1 + 1 + 1 + 1) 16777216 = true from rfl, if_true, R.bind, ec, en, catOf, ej', List.getElem?_concat_length]
        simp [hz]
      · rw [List.getElem?_append_right (by simp)]
        simp
      · intro d hd
        rcases List.mem_append.mp hd with hd | hd
        · exact ia d hd
        · exact is d hd
      · simp only [List.length_cons, List.length_append] at la ⊢
        omega) (rangeL 0 5) [some (scr ns), some (.int at_), some (.int 5), some (.ref h.length), none] (h ++ [.lst []]) ⟨fun d hd => by
          obtain ⟨i, _, e⟩ := range_mem hd
          exact ⟨i, e⟩, _, _, [], rfl, by simp, fun d hd => by simp at hd, by simp [rangeL]⟩
  obtain ⟨σ', h', e, _, x4, j, acc, rfl, ej, ia, la⟩ := lp
  refine ⟨j, h', ?_, acc, ej, ia, by simp at la; omega⟩
  show (b__law_draws [some (scr ns), some (.int at_), some (.int 5), none, none] h).out = _
  unfold b__law_draws
  rw [sqN (A := setS 3 (newL (dispE (pureE [])))) (σ := [some (scr ns), some (.int at_), some (.int 5), none, none]) (h := h) (σ1 := [some (scr ns), some (.int at_), some (.int 5), some (.ref h.length), none]) (h1 := h ++ [.lst []]) rfl]
  have fe := for_ok (src := rng1E (varE 2)) (h := h ++ [O.lst []]) (l := rangeL 0 5) (h1 := h ++ [O.lst []]) rfl e
  rw [sqN fe, last_ret]
  rfl
end RF

set_option maxRecDepth 100000
set_option maxHeartbeats 1000000
namespace RF
open PySem PySem.Spec
def none7 : SL := [none, none, none, none, none, none, none]
/-! ### the drawn deeds -/
theorem fit4 {i : Nat} {x : Str} {h : AH} (o : Okh i h) (hx : x ∈ deeds) : FitE 8 i (m__law_fit [.ref i, .str x] h) := fit_ok (k := 2) o hx
def inB : S1 := (seqS (asgS (gTu [(gN 4), (gN 5)]) (callF m__law_fit (consE (callF m__law_draws (consE (varE 0) (consE (opE addD (opE (intD mulF) (pureE (.int 60)) (varE 1)) (opE (intD mulF) (pureE (.int 3)) (varE 2))) (consE (pureE (.int 5)) (pureE []))))) (consE (varE 3) (pureE []))))) (seqS (ifS (orT (notT (valT (callF m_is_worth (consE (varE 4) (pureE []))))) (notT (valT (callF m_is_worth (consE (varE 5) (pureE [])))))) (retS (pureE (.bl false))) nopS) (ifS (valT (opE (eqD true) (callF m_done (consE (varE 3) (consE (varE 4) (consE (varE 5) (pureE []))))) (callF m__law_deed (consE (varE 3) (consE (varE 4) (consE (varE 5) (pureE []))))))) (retS (pureE (.bl false))) nopS)))
theorem inB_ok (ns : List Int) {k : Nat} (hk : k < 2) {i : Nat} (hi : i ≤ 100) {x : Str} (hx : x ∈ deeds) {x4 x5 : Option D} {h : AH} : ∃ a b h', inB ([some (scr ns), some (.int (0 + k)), some (.int i), some (.str x), x4, x5] ++ none7) h = .nx ([some (scr ns), some (.int (0 + k)), some (.int i), some (.str x), some a, some b] ++ none7) h' := by
  obtain ⟨j, h1, e1, o1⟩ := draws_ok ns (60 * (0 + k) + 3 * i) (by omega) h
  obtain ⟨a, b, h2, e2, wa, wb, o2⟩ := fit4 o1 hx
  obtain ⟨h3, e3⟩ := test_ok (n := 8) (i := 3) (j := 4) (k := 5) (σ := [some (scr ns), some (.int (0 + k)), some (.int i), some (.str x), some a, some b] ++ none7) hx wa wb (by omega) rfl rfl rfl h2
  refine ⟨a, b, h3, ?_⟩
  have w1 := worth_is (h := h2) wa (by omega)
  have w2 := worth_is (h := h2) wb (by omega)
  have m1 : mulF 60 (0 + (k : Int)) = some (.int (60 * (0 + k))) := by
    unfold mulF
    rw [if_pos (.inl ⟨by omega, by omega⟩)]
  have m2 : mulF 3 (i : Int) = some (.int (3 * i)) := by
    unfold mulF
    rw [if_pos (.inl ⟨by omega, by omega⟩)]
  have s1 : asgS (gTu [(gN 4), (gN 5)]) (callF m__law_fit (consE (callF m__law_draws (consE (varE 0) (consE (opE addD (opE (intD mulF) (pureE (.int 60)) (varE 1)) (opE (intD mulF) (pureE (.int 3)) (varE 2))) (consE (pureE (.int 5)) (pureE []))))) (consE (varE 3) (pureE [])))) ([some (scr ns), some (.int (0 + k)), some (.int i), some (.str x), x4, x5] ++ none7) h = .nx ([some (scr ns), some (.int (0 + k)), some (.int i), some (.str x), some a, some b] ++ none7) h2 := by
    simp only [asgS, callF, consE, varE, opE, pureE, R.bind, R.toS, intD, List.cons_append, List.getElem?_cons_zero, List.getElem?_cons_succ, m1, m2, addD, e1, e2]
    rfl
  have t2 : (orT (notT (valT (callF m_is_worth (consE (varE 4) (pureE []))))) (notT (valT (callF m_is_worth (consE (varE 5) (pureE [])))))) ([some (scr ns), some (.int (0 + k)), some (.int i), some (.str x), some a, some b] ++ none7) h2 = .ok false h2 := by
    simp [runF, startD, SR.out, retS, seqS, ifS, setS, dropS, nopS, R.toS, R.bind, pureE, consE, callE, callF, opE, unE, negD, chE, andE, orE, notE, ifE, valT, andT, orT, notT, un1, tupE, dispE, pureL, varE, sized, raiseF, fal, Res.p, Res.l, w1, w2]
  unfold inB
  rw [sqN s1, seq_skip t2]
  simp only [ifS, e3, R.toS]
  rfl
theorem outB_ok (ns : List Int) {h : AH} : ∃ x1 x2 x3 x4 x5 h', forS (rng1E (pureE (.int 2))) (gN 1) (forS (enumE' (fun _ h => m__law_words [] h)) (gTu [(gN 2), (gN 3)]) inB) (some (scr ns) :: none :: none :: none :: none :: none :: none7) h = .nx ([some (scr ns), x1, x2, x3, x4, x5] ++ none7) h' := by
  have lp := for_inv (g := gN 1) (body := forS (enumE' (fun _ h => m__law_words [] h)) (gTu [(gN 2), (gN 3)]) inB)
    (I := fun l σ h' => (∀ d ∈ l, ∃ k : Nat, k < 2 ∧ d = .int (0 + k)) ∧ ∃ x1 x2 x3 x4 x5, σ = [some (scr ns), x1, x2, x3, x4, x5] ++ none7) (by
      rintro d l σ h' ⟨hl, x1, x2, x3, x4, x5, rfl⟩
      obtain ⟨k, hk, rfl⟩ := hl d List.mem_cons_self
      have lp := for_inv (g := gTu [(gN 2), (gN 3)]) (body := inB)
        (I := fun l σ h' => (∀ d ∈ l, ∃ i x, i ≤ 100 ∧ x ∈ deeds ∧ d = .pr [.int ((i : Nat) : Int), .str x]) ∧ ∃ x2 x3 x4 x5, σ = [some (scr ns), some (.int (0 + k)), x2, x3, x4, x5] ++ none7) (by
          rintro d l σ h' ⟨hl, x2, x3, x4, x5, rfl⟩
          obtain ⟨i, x, hi, hx, rfl⟩ := hl d List.mem_cons_self
          obtain ⟨a, b, h2, e⟩ := inB_ok ns hk hi hx (x4 := x4) (x5 := x5) (h := h')
          exact ⟨_, rfl, _, h2, .inl e, fun d hd => hl d (List.mem_cons_of_mem _ hd), _, _, _, _, rfl⟩)
        (enumL 0 (deeds.map D.str)) ([some (scr ns), some (.int (0 + k)), x2, x3, x4, x5] ++ none7) h' ⟨fun d hd => by
          obtain ⟨i, x, ex, rfl⟩ := enum_mem hd
          obtain ⟨hi, ex'⟩ := List.getElem?_eq_some_iff.mp ex
          obtain ⟨y, hy, rfl⟩ := List.mem_map.mp (List.mem_of_getElem? ex)
          refine ⟨i, y, ?_, hy, by rw [Nat.zero_add]⟩
          have : (deeds.map D.str).length = 18 := rfl
          omega, _, _, _, _, rfl⟩
      obtain ⟨σ', h2, e, _, y2, y3, y4, y5, rfl⟩ := lp
      refine ⟨_, rfl, _, h2, .inl (for_ok (l := enumL 0 (deeds.map D.str)) (h1 := h') ?_ e), fun d hd => hl d (List.mem_cons_of_mem _ hd), _, _, _, _, _, rfl⟩
      simp only [enumE', words_ok, R.bind])
    (rangeL 0 2) (some (scr ns) :: none :: none :: none :: none :: none :: none7) h ⟨fun d hd => by
      obtain ⟨i, hi, e⟩ := range_mem hd
      exact ⟨i, hi, e⟩, _, _, _, _, _, rfl⟩
  obtain ⟨σ', h', e, _, x1, x2, x3, x4, x5, rfl⟩ := lp
  exact ⟨x1, x2, x3, x4, x5, h', for_ok (l := rangeL 0 2) (h1 := h) rfl e⟩
/-! ### great lists -/
theorem rangeW {n : Nat} (hn : n ≤ 5000) : Wd 1 (.tup (rangeL 0 n)) := Wd.tup (by unfold rangeL; simpa using hn) fun e he => by
  obtain ⟨i, hi, rfl⟩ := range_mem he
  exact Wd.int (by omega)
def bigs : List D := [.tup [.str "add", .str "a"], .tup [.str "union", .tup [.str "a", .str "b", .int 5]], .tup [.str "at", .int 4999], .tup [.str "put", .tup [.int 4998, .str "a"]], .tup [.str "counts", .tup [.int 4999, .int 1, .str "a"]], .tup [.str "many", .int 0]]
theorem bigs_ok : ∀ d ∈ bigs, ∃ x e, d = .tup [.str x, e] ∧ x ∈ deeds ∧ Wd 2 e := by
  intro d hd
  simp only [bigs, List.mem_cons, List.not_mem_nil, or_false] at hd
  rcases hd with rfl | rfl | rfl | rfl | rfl | rfl <;> exact ⟨_, _, rfl, by decide +kernel, by unfold Wd; decide +kernel⟩
def bigB : S1 := ifS (valT (opE (eqD true) (callF m_done (consE (varE 3) (consE (varE 7) (consE (varE 9) (pureE []))))) (callF m__law_deed (consE (varE 3) (consE (varE 7) (consE (varE 9) (pureE []))))))) (retS (pureE (.bl false))) nopS
theorem big_ok {x0 x1 x2 x3 x4 x5 x6 x8 : Option D} {m : Nat} (hm : m ≤ 5000) {h : AH} : ∃ x3' x9 h', forL (gTu [(gN 3), (gN 9)]) bigB bigs [x0, x1, x2, x3, x4, x5, x6, some (.tup (rangeL 0 m)), x8, none, none, none, none] h = .nx [x0, x1, x2, x3', x4, x5, x6, some (.tup (rangeL 0 m)), x8, x9, none, none, none] h' := by
  have lp := for_inv (g := gTu [(gN 3), (gN 9)]) (body := bigB) (I := fun l σ h' => (∀ d ∈ l, ∃ x e, d = .tup [.str x, e] ∧ x ∈ deeds ∧ Wd 2 e) ∧ ∃ x3 x9, σ = [x0, x1, x2, x3, x4, x5, x6, some (.tup (rangeL 0 m)), x8, x9, none, none, none]) (by
    rintro d l σ h' ⟨hl, x3, x9, rfl⟩
    obtain ⟨x, e, rfl, hx, he⟩ := hl d List.mem_cons_self
    obtain ⟨h3, e3⟩ := test_ok (n := 2) (i := 3) (j := 7) (k := 9) (σ := [x0, x1, x2, some (.str x), x4, x5, x6, some (.tup (rangeL 0 m)), x8, some e, none, none, none]) hx ((rangeW hm).mono (by omega)) he (by omega) rfl rfl rfl h'
    refine ⟨_, rfl, [x0, x1, x2, some (.str x), x4, x5, x6, some (.tup (rangeL 0 m)), x8, some e, none, none, none], h3, .inl ?_, fun d hd => hl d (List.mem_cons_of_mem _ hd), _, _, rfl⟩
    show bigB [x0, x1, x2, some (.str x), x4, x5, x6, some (.tup (rangeL 0 m)), x8, some e, none, none, none] h' = _
    unfold bigB
    simp only [ifS, e3, R.toS]
    rfl) bigs [x0, x1, x2, x3, x4, x5, x6, some (.tup (rangeL 0 m)), x8, none, none, none, none] h ⟨bigs_ok, _, _, rfl⟩
  obtain ⟨σ', h', e, _, x3', x9, rfl⟩ := lp
  exact ⟨x3', x9, h', e⟩
/-! ### what is none -/
def NoW (h : AH) (d : D) : Prop := m_is_worth [d] h = .ok (.bl false) h
theorem bads_a (h : AH) : ∀ d ∈ [D.int 10000, .int (-10000), .bl true, .non, .str "", .str "abcdefghi", .str "A", .str "a1", .lst [.int 1], .tup [.non], .tup [.int 1, .tup [.bl true]]], NoW h d := by
  intro d hd
  simp only [List.mem_cons, List.not_mem_nil, or_false] at hd
  rcases hd with rfl | rfl | rfl | rfl | rfl | rfl | rfl | rfl | rfl | rfl | rfl <;> (unfold NoW; kernel_rfl)
theorem bads_b (h : AH) : NoW h (.tup (rangeL 0 5001)) := by
  unfold NoW
  show (b_is_worth [some (.tup (rangeL 0 5001))] h).out = _
  unfold b_is_worth
  rw [last_ret]
  show l_is_within 24 [.tup (rangeL 0 5001), .int 20] h = _
  show (b_is_within (l_is_within 23) [some (.tup (rangeL 0 5001)), some (.int 20), none] h).out = _
  unfold b_is_within
  have t1 : (valT (isiE .tuple (varE 0))) [some (.tup (rangeL 0 5001)), some (.int 20), none] h = .ok true h := by simp [runF, startD, SR.out, retS, seqS, ifS, setS, dropS, nopS, R.toS, R.bind, pureE, consE, callE, callF, opE, unE, negD, chE, andE, orE, notE, ifE, valT, andT, orT, notT, un1, tupE, dispE, pureL, varE, sized, raiseF, fal, Res.p, Res.l, isiE, tyOf, Ty.sub]
  rw [seq_ret t1]
  have hl : ((rangeL 0 5001).length : Int) = 5001 := by simp [rangeL]
  simp [runF, startD, SR.out, retS, seqS, ifS, setS, dropS, nopS, R.toS, R.bind, pureE, consE, callE, callF, opE, unE, negD, chE, andE, orE, notE, ifE, valT, andT, orT, notT, un1, tupE, dispE, pureL, varE, sized, raiseF, fal, Res.p, Res.l, intD, gtF, leF, lenD, hl]
theorem bads_c (h : AH) (i : Nat) (e : h[i]? = some (.dct [])) : NoW h (.ref i) := by
  unfold NoW
  show (b_is_worth [some (.ref i)] h).out = _
  unfold b_is_worth
  rw [last_ret]
  show l_is_within 24 [.ref i, .int 20] h = _
  show (b_is_within (l_is_within 23) [some (.ref i), some (.int 20), none] h).out = _
  unfold b_is_within
  have t1 : (valT (isiE .tuple (varE 0))) [some (.ref i), some (.int 20), none] h = .ok false h := by simp [runF, startD, SR.out, retS, seqS, ifS, setS, dropS, nopS, R.toS, R.bind, pureE, consE, callE, callF, opE, unE, negD, chE, andE, orE, notE, ifE, valT, andT, orT, notT, un1, tupE, dispE, pureL, varE, sized, raiseF, fal, Res.p, Res.l, isiE, tyOf, Ty.sub, e]
  rw [seq_skip t1]
  have hn : m_is_number [.ref i] h = .ok (.bl false) h := by simp [runF, startD, SR.out, retS, seqS, ifS, setS, dropS, nopS, R.toS, R.bind, pureE, consE, callE, callF, opE, unE, negD, chE, andE, orE, notE, ifE, valT, andT, orT, notT, un1, tupE, dispE, pureL, varE, sized, raiseF, fal, Res.p, Res.l, m_is_number, b_is_number, isiE, tyOf, Ty.sub, e]
  have hw : m_is_word [.ref i] h = .ok (.bl false) h := by
    show (b_is_word [some (.ref i), none] h).out = _
    unfold b_is_word
    rw [last_ret]
    simp only [andE, isiE, varE, R.bind, tyOf, e, List.getElem?_cons_zero, Ty.sub]
    rfl
  simp [runF, startD, SR.out, retS, seqS, ifS, setS, dropS, nopS, R.toS, R.bind, pureE, consE, callE, callF, opE, unE, negD, chE, andE, orE, notE, ifE, valT, andT, orT, notT, un1, tupE, dispE, pureL, varE, sized, raiseF, fal, Res.p, Res.l, intD, gtF, hn, hw]
theorem done_bad1 {h : AH} {d b : D} (hd : NoW h d) : m_done [.str "pair", d, b] h = .exc ⟨"BadWorth", []⟩ h := by
  unfold NoW at hd
  show (b_done [some (.str "pair"), some d, some b, none] h).out = _
  unfold b_done
  have t1 : (orT (notT (valT (isiE .str (varE 0)))) (valT (opE (inD true) (varE 0) (pureE c_DEEDS)))) [some (.str "pair"), some d, some b, none] h = .ok false h := by
    have q : inD true (.str "pair") c_DEEDS h = .ok (.bl false) h := by kernel_rfl
    simp [runF, startD, SR.out, retS, seqS, ifS, setS, dropS, nopS, R.toS, R.bind, pureE, consE, callE, callF, opE, unE, negD, chE, andE, orE, notE, ifE, valT, andT, orT, notT, un1, tupE, dispE, pureL, varE, sized, raiseF, fal, Res.p, Res.l, isiE, tyOf, Ty.sub, q]
  rw [seq_skip t1]
  simp [runF, startD, SR.out, retS, seqS, ifS, setS, dropS, nopS, R.toS, R.bind, pureE, consE, callE, callF, opE, unE, negD, chE, andE, orE, notE, ifE, valT, andT, orT, notT, un1, tupE, dispE, pureL, varE, sized, raiseF, fal, Res.p, Res.l, hd, raiseV]
theorem done_bad2 {h : AH} {d : D} (hd : NoW h d) : m_done [.str "pair", .int 0, d] h = .exc ⟨"BadWorth", []⟩ h := by
  unfold NoW at hd
  show (b_done [some (.str "pair"), some (.int 0), some d, none] h).out = _
  unfold b_done
  have t1 : (orT (notT (valT (isiE .str (varE 0)))) (valT (opE (inD true) (varE 0) (pureE c_DEEDS)))) [some (.str "pair"), some (.int 0), some d, none] h = .ok false h := by
    have q : inD true (.str "pair") c_DEEDS h = .ok (.bl false) h := by kernel_rfl
    simp [runF, startD, SR.out, retS, seqS, ifS, setS, dropS, nopS, R.toS, R.bind, pureE, consE, callE, callF, opE, unE, negD, chE, andE, orE, notE, ifE, valT, andT, orT, notT, un1, tupE, dispE, pureL, varE, sized, raiseF, fal, Res.p, Res.l, isiE, tyOf, Ty.sub, q]
  rw [seq_skip t1]
  have w0 : m_is_worth [.int 0] h = .ok (.bl true) h := worth_is (n := 0) (Wd.int (by omega)) (by omega)
  simp [runF, startD, SR.out, retS, seqS, ifS, setS, dropS, nopS, R.toS, R.bind, pureE, consE, callE, callF, opE, unE, negD, chE, andE, orE, notE, ifE, valT, andT, orT, notT, un1, tupE, dispE, pureL, varE, sized, raiseF, fal, Res.p, Res.l, hd, w0, raiseV]
def badB : S1 := (seqS (ifS (valT (callF m_is_worth (consE (varE 10) (pureE [])))) (retS (pureE (.bl false))) nopS) (forS (seqE (pureL (dispE (consE (tupE (consE (varE 10) (consE (pureE (.int 0)) (pureE [])))) (consE (tupE (consE (pureE (.int 0)) (consE (varE 10) (pureE [])))) (pureE [])))))) (gN 11) (tryOnly mt_BadWorth (seqS (dropS (callF m_done (consE (pureE (.str "pair")) (consE (opE ixD (varE 11) (pureE (.int 0))) (consE (opE ixD (varE 11) (pureE (.int 1))) (pureE [])))))) (retS (pureE (.bl false)))) (fun y => cntS))))
theorem badB_ok {x0 x1 x2 x3 x4 x5 x6 x7 x8 x9 x11 x12 : Option D} {d : D} {h : AH} (hd : NoW h d) : badB [x0, x1, x2, x3, x4, x5, x6, x7, x8, x9, some d, x11, x12] h = .nx [x0, x1, x2, x3, x4, x5, x6, x7, x8, x9, some d, some (.tup [.int 0, d]), x12] h := by
  have q1 := done_bad1 (b := .int 0) hd
  have q2 := done_bad2 hd
  have lk : List.lookup ("BadWorth" : Str) mt_BadWorth = some true := by kernel_rfl
  have a0 : ∀ x y : D, L2.atI [x, y] 0 = some x := fun x y => rfl
  have a1 : ∀ x y : D, L2.atI [x, y] 1 = some y := fun x y => rfl
  unfold NoW at hd
  unfold badB
  rw [seq_skip (by simp [runF, startD, SR.out, retS, seqS, ifS, setS, dropS, nopS, R.toS, R.bind, pureE, consE, callE, callF, opE, unE, negD, chE, andE, orE, notE, ifE, valT, andT, orT, notT, un1, tupE, dispE, pureL, varE, sized, raiseF, fal, Res.p, Res.l, hd])]
  simp [runF, startD, SR.out, retS, seqS, ifS, setS, dropS, nopS, R.toS, R.bind, pureE, consE, callE, callF, opE, unE, negD, chE, andE, orE, notE, ifE, valT, andT, orT, notT, un1, tupE, dispE, pureL, varE, sized, raiseF, fal, Res.p, Res.l, forS, seqE, seqOf, forL, gN, tryOnly, ixD, getO, q1, q2, lk, cntS, SR.noexc, a0, a1]
theorem bad_ok {x0 x1 x2 x3 x4 x5 x6 x7 x8 x9 x12 : Option D} {h : AH} {l : List D} (hl : ∀ d ∈ l, NoW h d) : ∃ x10 x11, forL (gN 10) badB l [x0, x1, x2, x3, x4, x5, x6, x7, x8, x9, none, none, x12] h = .nx [x0, x1, x2, x3, x4, x5, x6, x7, x8, x9, x10, x11, x12] h := by
  have lp := for_inv (g := gN 10) (body := badB) (I := fun l σ h' => (∀ d ∈ l, NoW h d) ∧ h' = h ∧ ∃ x10 x11, σ = [x0, x1, x2, x3, x4, x5, x6, x7, x8, x9, x10, x11, x12]) (by
    rintro d l σ h' ⟨hl, rfl, x10, x11, rfl⟩
    exact ⟨_, rfl, _, h', .inl (badB_ok (hl d List.mem_cons_self)), fun d hd => hl d (List.mem_cons_of_mem _ hd), rfl, _, _, rfl⟩) l [x0, x1, x2, x3, x4, x5, x6, x7, x8, x9, none, none, x12] h ⟨hl, rfl, _, _, rfl⟩
  obtain ⟨σ', h', e, _, rfl, x10, x11, rfl⟩ := lp
  exact ⟨x10, x11, e⟩
def NoD (h : AH) (d : D) : Prop := m_done [d, .non, .non] h = .exc ⟨"BadDeed", []⟩ h
theorem nods (h : AH) : ∀ d ∈ [D.str "", .str "far", .non, .int 5, .str "Copy", .tup []], NoD h d := by
  intro d hd
  simp only [List.mem_cons, List.not_mem_nil, or_false] at hd
  rcases hd with rfl | rfl | rfl | rfl | rfl | rfl <;> (unfold NoD; kernel_rfl)
def nodB : S1 := tryOnly mt_BadDeed (seqS (dropS (callF m_done (consE (varE 12) (consE (pureE .non) (consE (pureE .non) (pureE [])))))) (retS (pureE (.bl false)))) (fun y => cntS)
theorem nod_ok {x0 x1 x2 x3 x4 x5 x6 x7 x8 x9 x10 x11 : Option D} {h : AH} {l : List D} (hl : ∀ d ∈ l, NoD h d) : ∃ x12, forL (gN 12) nodB l [x0, x1, x2, x3, x4, x5, x6, x7, x8, x9, x10, x11, none] h = .nx [x0, x1, x2, x3, x4, x5, x6, x7, x8, x9, x10, x11, x12] h := by
  have lk : List.lookup ("BadDeed" : Str) mt_BadDeed = some true := by kernel_rfl
  have lp := for_inv (g := gN 12) (body := nodB) (I := fun l σ h' => (∀ d ∈ l, NoD h d) ∧ h' = h ∧ ∃ x12, σ = [x0, x1, x2, x3, x4, x5, x6, x7, x8, x9, x10, x11, x12]) (by
    rintro d l σ h' ⟨hl, rfl, x12, rfl⟩
    have q := hl d List.mem_cons_self
    unfold NoD at q
    refine ⟨_, rfl, [x0, x1, x2, x3, x4, x5, x6, x7, x8, x9, x10, x11, some d], h', .inr ?_, fun d hd => hl d (List.mem_cons_of_mem _ hd), rfl, _, rfl⟩
    simp [runF, startD, SR.out, retS, seqS, ifS, setS, dropS, nopS, R.toS, R.bind, pureE, consE, callE, callF, opE, unE, negD, chE, andE, orE, notE, ifE, valT, andT, orT, notT, un1, tupE, dispE, pureL, varE, sized, raiseF, fal, Res.p, Res.l, nodB, tryOnly, q, lk, cntS, SR.noexc]) l [x0, x1, x2, x3, x4, x5, x6, x7, x8, x9, x10, x11, none] h ⟨hl, rfl, _, rfl⟩
  obtain ⟨σ', h', e, _, rfl, x12, rfl⟩ := lp
  exact ⟨x12, e⟩
theorem all_right (ns : List Int) (h : AH) : ∃ h', m__law_all_right [scr ns] h = .ok (.bl true) h' := by
  obtain ⟨x1, x2, x3, x4, x5, h1, e1⟩ := outB_ok ns (h := h)
  obtain ⟨c, e2⟩ := cell_ok ns 120 (by omega) h1
  have c0 := Int.emod_nonneg c (b := 3) (by omega)
  have c1 := Int.emod_lt_of_pos c (b := 3) (by omega)
  have hm : (4998 + c % 3).toNat ≤ 5000 := by omega
  obtain ⟨y3, y9, h2, e3⟩ := big_ok (x0 := some (scr ns)) (x1 := x1) (x2 := x2) (x3 := x3) (x4 := x4) (x5 := x5) (x6 := some (.int c)) (x8 := some (.lst bigs)) hm (h := h1)
  obtain ⟨y10, y11, e4⟩ := bad_ok (x0 := some (scr ns)) (x1 := x1) (x2 := x2) (x3 := y3) (x4 := x4) (x5 := x5) (x6 := some (.int c)) (x7 := some (.tup (rangeL 0 (4998 + c % 3).toNat))) (x8 := some (.lst ([D.int 10000, .int (-10000), .bl true, .non, .str "", .str "abcdefghi", .str "A", .str "a1", .lst [.int 1], .tup [.non], .tup [.int 1, .tup [.bl true]]] ++ [.tup (rangeL 0 5001), .ref h2.length]))) (x9 := y9) (x12 := none) (h := h2 ++ [.dct []]) (l := [D.int 10000, .int (-10000), .bl true, .non, .str "", .str "abcdefghi", .str "A", .str "a1", .lst [.int 1], .tup [.non], .tup [.int 1, .tup [.bl true]]] ++ [.tup (rangeL 0 5001), .ref h2.length]) (by
    intro d hd
    rcases List.mem_append.mp hd with hd | hd
    · exact bads_a _ d hd
    · simp only [List.mem_cons, List.not_mem_nil, or_false] at hd
      rcases hd with rfl | rfl
      · exact bads_b _
      · exact bads_c _ _ (by simp))
  obtain ⟨y12, e5⟩ := nod_ok (x0 := some (scr ns)) (x1 := x1) (x2 := x2) (x3 := y3) (x4 := x4) (x5 := x5) (x6 := some (.int c)) (x7 := some (.tup (rangeL 0 (4998 + c % 3).toNat))) (x8 := some (.lst ([D.int 10000, .int (-10000), .bl true, .non, .str "", .str "abcdefghi", .str "A", .str "a1", .lst [.int 1], .tup [.non], .tup [.int 1, .tup [.bl true]]] ++ [.tup (rangeL 0 5001), .ref h2.length]))) (x9 := y9) (x10 := y10) (x11 := y11) (h := h2 ++ [.dct []]) (nods _)
  refine ⟨h2 ++ [.dct []], ?_⟩
  show (b__law_all_right (some (scr ns) :: none :: none :: none :: none :: none :: none7) h).out = _
  unfold b__law_all_right
  refine (congrArg SR.out (sqN e1)).trans ?_
  refine (congrArg SR.out (sqN (A := setS 6 _) (σ1 := [some (scr ns), x1, x2, x3, x4, x5, some (.int c), none, none, none, none, none, none]) (h1 := h1) (by simp [runF, startD, SR.out, retS, seqS, ifS, setS, dropS, nopS, R.toS, R.bind, pureE, consE, callE, callF, opE, unE, negD, chE, andE, orE, notE, ifE, valT, andT, orT, notT, un1, tupE, dispE, pureL, varE, sized, raiseF, fal, Res.p, Res.l, e2, none7]))).trans ?_
  refine (congrArg SR.out (sqN (A := setS 7 _) (σ1 := [some (scr ns), x1, x2, x3, x4, x5, some (.int c), some (.tup (rangeL 0 (4998 + c % 3).toNat)), none, none, none, none, none]) (h1 := h1) (by
    have hb : 0 ≤ 4998 + c % 3 ∧ 4998 + c % 3 ≤ 16777216 := by omega
    simp [runF, startD, SR.out, retS, seqS, ifS, setS, dropS, nopS, R.toS, R.bind, pureE, consE, callE, callF, opE, unE, negD, chE, andE, orE, notE, ifE, valT, andT, orT, notT, un1, tupE, dispE, pureL, varE, sized, raiseF, fal, Res.p, Res.l, tupRgE, intD, modF, addD, hb]))).trans ?_
  refine (congrArg SR.out (sqN (A := setS 8 _) (σ1 := [some (scr ns), x1, x2, x3, x4, x5, some (.int c), some (.tup (rangeL 0 (4998 + c % 3).toNat)), some (.lst [.tup [.str "add", .str "a"], .tup [.str "union", .tup [.str "a", .str "b", .int 5]], .tup [.str "at", .int 4999], .tup [.str "put", .tup [.int 4998, .str "a"]]]), none, none, none, none]) (h1 := h1) (by simp [runF, startD, SR.out, retS, seqS, ifS, setS, dropS, nopS, R.toS, R.bind, pureE, consE, callE, callF, opE, unE, negD, chE, andE, orE, notE, ifE, valT, andT, orT, notT, un1, tupE, dispE, pureL, varE, sized, raiseF, fal, Res.p, Res.l]))).trans ?_
  refine (congrArg SR.out (sqN (A := setS 8 _) (σ1 := [some (scr ns), x1, x2, x3, x4, x5, some (.int c), some (.tup (rangeL 0 (4998 + c % 3).toNat)), some (.lst bigs), none, none, none, none]) (h1 := h1) (by simp [runF, startD, SR.out, retS, seqS, ifS, setS, dropS, nopS, R.toS, R.bind, pureE, consE, callE, callF, opE, unE, negD, chE, andE, orE, notE, ifE, valT, andT, orT, notT, un1, tupE, dispE, pureL, varE, sized, raiseF, fal, Res.p, Res.l, addD, catOf, bigs]))).trans ?_
  refine (congrArg SR.out (sqN (for_ok (src := seqE (varE 8)) (l := bigs) (h1 := h1) rfl e3))).trans ?_
  refine (congrArg SR.out (sqN (A := setS 8 _) (σ1 := [some (scr ns), x1, x2, y3, x4, x5, some (.int c), some (.tup (rangeL 0 (4998 + c % 3).toNat)), some (.lst [D.int 10000, .int (-10000), .bl true, .non, .str "", .str "abcdefghi", .str "A", .str "a1", .lst [.int 1], .tup [.non], .tup [.int 1, .tup [.bl true]]]), y9, none, none, none]) (h1 := h2) (by simp [runF, startD, SR.out, retS, seqS, ifS, setS, dropS, nopS, R.toS, R.bind, pureE, consE, callE, callF, opE, unE, negD, chE, andE, orE, notE, ifE, valT, andT, orT, notT, un1, tupE, dispE, pureL, varE, sized, raiseF, fal, Res.p, Res.l]))).trans ?_
  refine (congrArg SR.out (sqN (A := setS 8 _) (σ1 := [some (scr ns), x1, x2, y3, x4, x5, some (.int c), some (.tup (rangeL 0 (4998 + c % 3).toNat)), some (.lst ([D.int 10000, .int (-10000), .bl true, .non, .str "", .str "abcdefghi", .str "A", .str "a1", .lst [.int 1], .tup [.non], .tup [.int 1, .tup [.bl true]]] ++ [.tup (rangeL 0 5001), .ref h2.length])), y9, none, none, none]) (h1 := h2 ++ [.dct []]) (by simp [runF, startD, SR.out, retS, seqS, ifS, setS, dropS, nopS, R.toS, R.bind, pureE, consE, callE, callF, opE, unE, negD, chE, andE, orE, notE, ifE, valT, andT, orT, notT, un1, tupE, dispE, pureL, varE, sized, raiseF, fal, Res.p, Res.l, addD, catOf, tupRgE, newD]))).trans ?_
  refine (congrArg SR.out (sqN (for_ok (src := seqE (varE 8)) (h1 := h2 ++ [.dct []]) rfl e4))).trans ?_
  refine (congrArg SR.out (sqN (for_ok (src := seqE (pureL (dispE (consE (pureE (.str "")) (consE (pureE (.str "far")) (consE (pureE .non) (consE (pureE (.int 5)) (consE (pureE (.str "Copy")) (consE (tupE (pureE [])) (pureE []))))))))))  (h1 := h2 ++ [.dct []]) rfl e5))).trans ?_
  rw [last_ret]
  have w1 : m_is_worth [.tup []] (h2 ++ [.dct []]) = .ok (.bl true) (h2 ++ [.dct []]) := worth_is (n := 1) (Wd.tup (by simp) fun e he => by simp at he) (by omega)
  have w2 : m_is_worth [.tup (rangeL 0 5000)] (h2 ++ [.dct []]) = .ok (.bl true) (h2 ++ [.dct []]) := worth_is (n := 1) (rangeW (by omega)) (by omega)
  have w3 : m_is_worth [.str "abcdefgh"] (h2 ++ [.dct []]) = .ok (.bl true) (h2 ++ [.dct []]) := worth_is (n := 1) (Wd.str (by decide +kernel)) (by omega)
  have w4 : m_is_worth [.tup [.int (-9999), .tup [.str "a", .tup []]]] (h2 ++ [.dct []]) = .ok (.bl true) (h2 ++ [.dct []]) := worth_is (n := 5) (by unfold Wd; decide +kernel) (by omega)
  simp [runF, startD, SR.out, retS, seqS, ifS, setS, dropS, nopS, R.toS, R.bind, pureE, consE, callE, callF, opE, unE, negD, chE, andE, orE, notE, ifE, valT, andT, orT, notT, un1, tupE, dispE, pureL, varE, sized, raiseF, fal, Res.p, Res.l, w1, w2, w3, w4, tupRgE]
theorem hlaw (ns : List Int) (hn : ns.length ≤ 63) : ∃ h', m_law [.frz (ns.map D.int)] [] = .ok (.bl true) h' := by
  obtain ⟨h', e⟩ := all_right ns []
  refine ⟨h', ?_⟩
  unfold scr at e
  show (b_law [some (.frz (ns.map D.int))] []).out = _
  unfold b_law
  simp [runF, startD, SR.out, retS, seqS, ifS, setS, dropS, nopS, R.toS, R.bind, pureE, consE, callE, callF, opE, unE, negD, chE, andE, orE, notE, ifE, valT, andT, orT, notT, un1, tupE, dispE, pureL, varE, sized, raiseF, fal, Res.p, Res.l, tryOnly, e]
end RF

set_option maxRecDepth 100000
set_option maxHeartbeats 4000000
namespace RF
open PySem PySem.Spec PyProof.Rows L2
def top2 (i j : Nat) : Stmt := match top i with
  | .ClassDef _ _ _ b .. => b.getD j (.Pass ⟨0, 0, 0, 0⟩)
  | s => s
def fn : List He.DefD := [⟨("is_number", none), "is_number", "is_number", defArgs (top 13), defBody (top 13), defScope (top 13), [], []⟩,
  ⟨("is_word", none), "is_word", "is_word", defArgs (top 14), defBody (top 14), defScope (top 14), [], []⟩,
  ⟨("is_within", none), "is_within", "is_within", defArgs (top 15), defBody (top 15), defScope (top 15), [], []⟩,
  ⟨("is_worth", none), "is_worth", "is_worth", defArgs (top 16), defBody (top 16), defScope (top 16), [], []⟩,
  ⟨("kind_of", none), "kind_of", "kind_of", defArgs (top 17), defBody (top 17), defScope (top 17), [], []⟩,
  ⟨("check_kinds", none), "check_kinds", "check_kinds", defArgs (top 18), defBody (top 18), defScope (top 18), [], []⟩,
  ⟨("summed", none), "summed", "summed", defArgs (top 19), defBody (top 19), defScope (top 19), [], []⟩,
  ⟨("member", none), "member", "member", defArgs (top 20), defBody (top 20), defScope (top 20), [], []⟩,
  ⟨("put_in", none), "put_in", "put_in", defArgs (top 21), defBody (top 21), defScope (top 21), [], []⟩,
  ⟨("filled", none), "filled", "filled", defArgs (top 22), defBody (top 22), defScope (top 22), [], []⟩,
  ⟨("united", none), "united", "united", defArgs (top 23), defBody (top 23), defScope (top 23), [], []⟩,
  ⟨("listed", none), "listed", "listed", defArgs (top 24), defBody (top 24), defScope (top 24), [], []⟩,
  ⟨("operands_of", none), "operands_of", "operands_of", defArgs (top 25), defBody (top 25), defScope (top 25), [], []⟩,
  ⟨("reflected", none), "reflected", "reflected", defArgs (top 26), defBody (top 26), defScope (top 26), [], []⟩,
  ⟨("made_by", none), "made_by", "made_by", defArgs (top 29), defBody (top 29), defScope (top 29), [], []⟩,
  ⟨("told_by", none), "told_by", "told_by", defArgs (top 30), defBody (top 30), defScope (top 30), [], []⟩,
  ⟨("done", none), "done", "done", defArgs (top 31), defBody (top 31), defScope (top 31), [], []⟩,
  ⟨("_law_cell_at", none), "_law_cell_at", "_law_cell_at", defArgs (top 33), defBody (top 33), defScope (top 33), [], []⟩,
  ⟨("_law_numbers", none), "_law_numbers", "_law_numbers", defArgs (top 34), defBody (top 34), defScope (top 34), [], []⟩,
  ⟨("_law_by", none), "_law_by", "_law_by", defArgs (top 35), defBody (top 35), defScope (top 35), [], []⟩,
  ⟨("_law_draws", none), "_law_draws", "_law_draws", defArgs (top 36), defBody (top 36), defScope (top 36), [], []⟩,
  ⟨("_law_kind", none), "_law_kind", "_law_kind", defArgs (top 37), defBody (top 37), defScope (top 37), [], []⟩,
  ⟨("_law_sum", none), "_law_sum", "_law_sum", defArgs (top 38), defBody (top 38), defScope (top 38), [], []⟩,
  ⟨("_law_two", none), "_law_two", "_law_two", defArgs (top 39), defBody (top 39), defScope (top 39), [], []⟩,
  ⟨("_law_one", none), "_law_one", "_law_one", defArgs (top 40), defBody (top 40), defScope (top 40), [], []⟩,
  ⟨("_law_fill", none), "_law_fill", "_law_fill", defArgs (top 41), defBody (top 41), defScope (top 41), [], []⟩,
  ⟨("_law_is_pair", none), "_law_is_pair", "_law_is_pair", defArgs (top 42), defBody (top 42), defScope (top 42), [], []⟩,
  ⟨("_law_deed", none), "_law_deed", "_law_deed", defArgs (top 43), defBody (top 43), defScope (top 43), [], []⟩,
  ⟨("_law_words", none), "_law_words", "_law_words", defArgs (top 44), defBody (top 44), defScope (top 44), [], []⟩,
  ⟨("_law_worth", none), "_law_worth", "_law_worth", defArgs (top 45), defBody (top 45), defScope (top 45), [], []⟩,
  ⟨("_law_fit", none), "_law_fit", "_law_fit", defArgs (top 46), defBody (top 46), defScope (top 46), [], []⟩,
  ⟨("_law_all_right", none), "_law_all_right", "_law_all_right", defArgs (top 47), defBody (top 47), defScope (top 47), [], []⟩,
  ⟨("law", none), "law", "law", defArgs (top 48), defBody (top 48), defScope (top 48), [], []⟩,
  ⟨("Fallen", some "__init__"), "__init__", "Fallen.__init__", defArgs (top2 12 0), defBody (top2 12 0), defScope (top2 12 0), [], []⟩]
def fa : List He.Fa := [.glo "is_number", .glo "is_word", .glo "is_within", .glo "is_worth", .glo "kind_of", .glo "check_kinds", .glo "summed", .glo "member", .glo "put_in", .glo "filled", .glo "united", .glo "listed", .glo "operands_of", .glo "reflected", .glo "made_by", .glo "told_by", .glo "done", .glo "_law_cell_at", .glo "_law_numbers", .glo "_law_by", .glo "_law_draws", .glo "_law_kind", .glo "_law_sum", .glo "_law_two", .glo "_law_one", .glo "_law_fill", .glo "_law_is_pair", .glo "_law_deed", .glo "_law_words", .glo "_law_worth", .glo "_law_fit", .glo "_law_all_right", .glo "law", .free "all", .free "any", .free "bool", .free "enumerate", .free "int", .free "isinstance", .free "len", .free "list", .free "range", .free "str", .free "tuple", .glo "DEEDS", .str "EARLY" "e", .str "FILLED" "c", .str "LETTERS" "abcdefghijklmnopqrstuvwxyz", .glo "MAKING", .int "MOST_LETTERS" 8, .int "MOST_MEMBERS" 5000, .int "MOST_NUMBER" 9999, .int "MOST_WITHIN" 20, .glo "BadDeed", .exc "BadDeed", .glo "BadWorth", .exc "BadWorth", .glo "Fallen", .exm "Fallen" "Fallen" true, .exm "BadDeed" "Fallen" false, .exm "BadWorth" "Fallen" false, .exm "LeadError" "Fallen" false, .exm "Fallen" "BadWorth" false, .exm "BadDeed" "BadWorth" false, .exm "BadWorth" "BadWorth" true, .exm "LeadError" "BadWorth" false, .exm "Fallen" "BadDeed" false, .exm "BadDeed" "BadDeed" true, .exm "BadWorth" "BadDeed" false, .exm "LeadError" "BadDeed" false, .glo "LeadError", .exm "Fallen" "LeadError" false, .exm "BadDeed" "LeadError" true, .exm "BadWorth" "LeadError" true, .exm "LeadError" "LeadError" true]
def exl (K : PySem.W.Frag) : List Bool := [rvB K c_DEEDS (.ref (He.ga K "DEEDS")), rvB K c_MAKING (.ref (He.ga K "MAKING")), RFX.falB K (He.ga K "Fallen") (He.fAd K ("Fallen", some "__init__"))]
def ex (K : PySem.W.Frag) : Bool := (exl K).all id
theorem fal_of {K : PySem.W.Frag} {mg : Str → Option Value} (g : mg "Fallen" = some (.ref (He.ga K "Fallen"))) (b : RFX.falB K (He.ga K "Fallen") (He.fAd K ("Fallen", some "__init__")) = true)
    (d : ∃ fd, FunD K "__init__" "Fallen.__init__" (defArgs (top2 12 0)) (defBody (top2 12 0)) (defScope (top2 12 0)) [] [] (He.fAd K ("Fallen", some "__init__")) fd) : RFX.Fal K mg (He.ga K "Fallen") (He.fAd K ("Fallen", some "__init__")) := by
  obtain ⟨fd, d⟩ := d
  exact ⟨g, b, ⟨_, _, _, _, _, _, fd, d⟩⟩
theorem tx_of {K : PySem.W.Frag} {h : Heap} {mg : Str → Option Value} (X : K.In h) (G : h.Ns mainGlobals mg) (c : He.SaysD fa fn K) (hex : ex K = true) : Tx K mg :=
  ⟨dkT_of (He.glo_ok X G (c.fact 0 (f := .glo "is_number") rfl)) (c.def_ 0 rfl) (fun _ _ _ _ _ _ us hl => match us, hl with | [_], _ => rfl),
  dkT_of (He.glo_ok X G (c.fact 1 (f := .glo "is_word") rfl)) (c.def_ 1 rfl) (fun _ _ _ _ _ _ us hl => match us, hl with | [_], _ => rfl),
  dkT_of (He.glo_ok X G (c.fact 2 (f := .glo "is_within") rfl)) (c.def_ 2 rfl) (fun _ _ _ _ _ _ us hl => match us, hl with | [_, _], _ => rfl),
  dkT_of (He.glo_ok X G (c.fact 3 (f := .glo "is_worth") rfl)) (c.def_ 3 rfl) (fun _ _ _ _ _ _ us hl => match us, hl with | [_], _ => rfl),
  dkT_of (He.glo_ok X G (c.fact 4 (f := .glo "kind_of") rfl)) (c.def_ 4 rfl) (fun _ _ _ _ _ _ us hl => match us, hl with | [_], _ => rfl),
  dkT_of (He.glo_ok X G (c.fact 5 (f := .glo "check_kinds") rfl)) (c.def_ 5 rfl) (fun _ _ _ _ _ _ us hl => match us, hl with | [_, _], _ => rfl),
  dkT_of (He.glo_ok X G (c.fact 6 (f := .glo "summed") rfl)) (c.def_ 6 rfl) (fun _ _ _ _ _ _ us hl => match us, hl with | [_, _, _], _ => rfl),
  dkT_of (He.glo_ok X G (c.fact 7 (f := .glo "member") rfl)) (c.def_ 7 rfl) (fun _ _ _ _ _ _ us hl => match us, hl with | [_, _], _ => rfl),
  dkT_of (He.glo_ok X G (c.fact 8 (f := .glo "put_in") rfl)) (c.def_ 8 rfl) (fun _ _ _ _ _ _ us hl => match us, hl with | [_, _], _ => rfl),
  dkT_of (He.glo_ok X G (c.fact 9 (f := .glo "filled") rfl)) (c.def_ 9 rfl) (fun _ _ _ _ _ _ us hl => match us, hl with | [_, _], _ => rfl),
  dkT_of (He.glo_ok X G (c.fact 10 (f := .glo "united") rfl)) (c.def_ 10 rfl) (fun _ _ _ _ _ _ us hl => match us, hl with | [_, _], _ => rfl),
  dkT_of (He.glo_ok X G (c.fact 11 (f := .glo "listed") rfl)) (c.def_ 11 rfl) (fun _ _ _ _ _ _ us hl => match us, hl with | [_, _, _], _ => rfl),
  dkT_of (He.glo_ok X G (c.fact 12 (f := .glo "operands_of") rfl)) (c.def_ 12 rfl) (fun _ _ _ _ _ _ us hl => match us, hl with | [_], _ => rfl),
  dkT_of (He.glo_ok X G (c.fact 13 (f := .glo "reflected") rfl)) (c.def_ 13 rfl) (fun _ _ _ _ _ _ us hl => match us, hl with | [_, _, _], _ => rfl),
  dkT_of (He.glo_ok X G (c.fact 14 (f := .glo "made_by") rfl)) (c.def_ 14 rfl) (fun _ _ _ _ _ _ us hl => match us, hl with | [_, _, _], _ => rfl),
  dkT_of (He.glo_ok X G (c.fact 15 (f := .glo "told_by") rfl)) (c.def_ 15 rfl) (fun _ _ _ _ _ _ us hl => match us, hl with | [_, _, _], _ => rfl),
  dkT_of (He.glo_ok X G (c.fact 16 (f := .glo "done") rfl)) (c.def_ 16 rfl) (fun _ _ _ _ _ _ us hl => match us, hl with | [_, _, _], _ => rfl),
  dkT_of (He.glo_ok X G (c.fact 17 (f := .glo "_law_cell_at") rfl)) (c.def_ 17 rfl) (fun _ _ _ _ _ _ us hl => match us, hl with | [_, _], _ => rfl),
  dkT_of (He.glo_ok X G (c.fact 18 (f := .glo "_law_numbers") rfl)) (c.def_ 18 rfl) (fun _ _ _ _ _ _ us hl => match us, hl with | [_, _], _ => rfl),
  dkT_of (He.glo_ok X G (c.fact 19 (f := .glo "_law_by") rfl)) (c.def_ 19 rfl) (fun _ _ _ _ _ _ us hl => match us, hl with | [_, _], _ => rfl),
  dkT_of (He.glo_ok X G (c.fact 20 (f := .glo "_law_draws") rfl)) (c.def_ 20 rfl) (fun _ _ _ _ _ _ us hl => match us, hl with | [_, _, _], _ => rfl),
  dkT_of (He.glo_ok X G (c.fact 21 (f := .glo "_law_kind") rfl)) (c.def_ 21 rfl) (fun _ _ _ _ _ _ us hl => match us, hl with | [_], _ => rfl),
  dkT_of (He.glo_ok X G (c.fact 22 (f := .glo "_law_sum") rfl)) (c.def_ 22 rfl) (fun _ _ _ _ _ _ us hl => match us, hl with | [_, _, _], _ => rfl),
  dkT_of (He.glo_ok X G (c.fact 23 (f := .glo "_law_two") rfl)) (c.def_ 23 rfl) (fun _ _ _ _ _ _ us hl => match us, hl with | [_, _, _], _ => rfl),
  dkT_of (He.glo_ok X G (c.fact 24 (f := .glo "_law_one") rfl)) (c.def_ 24 rfl) (fun _ _ _ _ _ _ us hl => match us, hl with | [_, _, _], _ => rfl),
  dkT_of (He.glo_ok X G (c.fact 25 (f := .glo "_law_fill") rfl)) (c.def_ 25 rfl) (fun _ _ _ _ _ _ us hl => match us, hl with | [_, _], _ => rfl),
  dkT_of (He.glo_ok X G (c.fact 26 (f := .glo "_law_is_pair") rfl)) (c.def_ 26 rfl) (fun _ _ _ _ _ _ us hl => match us, hl with | [_], _ => rfl),
  dkT_of (He.glo_ok X G (c.fact 27 (f := .glo "_law_deed") rfl)) (c.def_ 27 rfl) (fun _ _ _ _ _ _ us hl => match us, hl with | [_, _, _], _ => rfl),
  dkT_of (He.glo_ok X G (c.fact 28 (f := .glo "_law_words") rfl)) (c.def_ 28 rfl) (fun _ _ _ _ _ _ us hl => match us, hl with | [], _ => rfl),
  dkT_of (He.glo_ok X G (c.fact 29 (f := .glo "_law_worth") rfl)) (c.def_ 29 rfl) (fun _ _ _ _ _ _ us hl => match us, hl with | [_, _], _ => rfl),
  dkT_of (He.glo_ok X G (c.fact 30 (f := .glo "_law_fit") rfl)) (c.def_ 30 rfl) (fun _ _ _ _ _ _ us hl => match us, hl with | [_, _], _ => rfl),
  dkT_of (He.glo_ok X G (c.fact 31 (f := .glo "_law_all_right") rfl)) (c.def_ 31 rfl) (fun _ _ _ _ _ _ us hl => match us, hl with | [_], _ => rfl),
  dkT_of (He.glo_ok X G (c.fact 32 (f := .glo "law") rfl)) (c.def_ 32 rfl) (fun _ _ _ _ _ _ us hl => match us, hl with | [_], _ => rfl),
  He.free_ok X G (c.fact 33 (f := .free "all") rfl),
  He.free_ok X G (c.fact 34 (f := .free "any") rfl),
  He.free_ok X G (c.fact 35 (f := .free "bool") rfl),
  He.free_ok X G (c.fact 36 (f := .free "enumerate") rfl),
  He.free_ok X G (c.fact 37 (f := .free "int") rfl),
  He.free_ok X G (c.fact 38 (f := .free "isinstance") rfl),
  He.free_ok X G (c.fact 39 (f := .free "len") rfl),
  He.free_ok X G (c.fact 40 (f := .free "list") rfl),
  He.free_ok X G (c.fact 41 (f := .free "range") rfl),
  He.free_ok X G (c.fact 42 (f := .free "str") rfl),
  He.free_ok X G (c.fact 43 (f := .free "tuple") rfl),
  He.glo_ok X G (c.fact 44 (f := .glo "DEEDS") rfl),
  rvB_top (exB hex 0 rfl),
  He.str_ok X G (c.fact 45 (f := .str "EARLY" "e") rfl),
  He.str_ok X G (c.fact 46 (f := .str "FILLED" "c") rfl),
  He.str_ok X G (c.fact 47 (f := .str "LETTERS" "abcdefghijklmnopqrstuvwxyz") rfl),
  He.glo_ok X G (c.fact 48 (f := .glo "MAKING") rfl),
  rvB_top (exB hex 1 rfl),
  He.int_ok X G (c.fact 49 (f := .int "MOST_LETTERS" 8) rfl),
  He.int_ok X G (c.fact 50 (f := .int "MOST_MEMBERS" 5000) rfl),
  He.int_ok X G (c.fact 51 (f := .int "MOST_NUMBER" 9999) rfl),
  He.int_ok X G (c.fact 52 (f := .int "MOST_WITHIN" 20) rfl),
  xv_of (He.glo_ok X G (c.fact 53 (f := .glo "BadDeed") rfl)) (c.fact 54 (f := .exc "BadDeed") rfl),
  xv_of (He.glo_ok X G (c.fact 55 (f := .glo "BadWorth") rfl)) (c.fact 56 (f := .exc "BadWorth") rfl),
  He.glo_ok X G (c.fact 57 (f := .glo "Fallen") rfl),
  (mt_cons (He.exm_ok (c.fact 61 (f := .exm "LeadError" "Fallen" false) rfl)) (mt_cons (He.exm_ok (c.fact 60 (f := .exm "BadWorth" "Fallen" false) rfl)) (mt_cons (He.exm_ok (c.fact 59 (f := .exm "BadDeed" "Fallen" false) rfl)) (mt_cons (He.exm_ok (c.fact 58 (f := .exm "Fallen" "Fallen" true) rfl)) mt_nil)))),
  He.glo_ok X G (c.fact 55 (f := .glo "BadWorth") rfl),
  (mt_cons (He.exm_ok (c.fact 65 (f := .exm "LeadError" "BadWorth" false) rfl)) (mt_cons (He.exm_ok (c.fact 64 (f := .exm "BadWorth" "BadWorth" true) rfl)) (mt_cons (He.exm_ok (c.fact 63 (f := .exm "BadDeed" "BadWorth" false) rfl)) (mt_cons (He.exm_ok (c.fact 62 (f := .exm "Fallen" "BadWorth" false) rfl)) mt_nil)))),
  He.glo_ok X G (c.fact 53 (f := .glo "BadDeed") rfl),
  (mt_cons (He.exm_ok (c.fact 69 (f := .exm "LeadError" "BadDeed" false) rfl)) (mt_cons (He.exm_ok (c.fact 68 (f := .exm "BadWorth" "BadDeed" false) rfl)) (mt_cons (He.exm_ok (c.fact 67 (f := .exm "BadDeed" "BadDeed" true) rfl)) (mt_cons (He.exm_ok (c.fact 66 (f := .exm "Fallen" "BadDeed" false) rfl)) mt_nil)))),
  He.glo_ok X G (c.fact 70 (f := .glo "LeadError") rfl),
  (mt_cons (He.exm_ok (c.fact 74 (f := .exm "LeadError" "LeadError" true) rfl)) (mt_cons (He.exm_ok (c.fact 73 (f := .exm "BadWorth" "LeadError" true) rfl)) (mt_cons (He.exm_ok (c.fact 72 (f := .exm "BadDeed" "LeadError" true) rfl)) (mt_cons (He.exm_ok (c.fact 71 (f := .exm "Fallen" "LeadError" false) rfl)) mt_nil)))),
  ⟨_, fal_of (He.glo_ok X G (c.fact 57 (f := .glo "Fallen") rfl)) (exB hex 2 rfl) (c.def_ 33 rfl)⟩,
  (fal_of (He.glo_ok X G (c.fact 57 (f := .glo "Fallen") rfl)) (exB hex 2 rfl) (c.def_ 33 rfl)).all.2.2.2.1,
  (fal_of (He.glo_ok X G (c.fact 57 (f := .glo "Fallen") rfl)) (exB hex 2 rfl) (c.def_ 33 rfl)).all.2.2.2.2.1⟩
abbrev RR : PySem.W.OpenRow := PySem.W.OpenLaw.row PySem.Challenge.rw_selflead_k31_whole_worths
abbrev hk : PySem.W.Hook := He.hookX 4 fa fn [] [] ex
def ob (s : PySem.W.SharedT) : He.AlX := He.obsX 4 fa fn [] [] ex (HandSHeadRun.getT s)
theorem ob_eq (s : PySem.W.SharedT) : ob s = hk.obs s.abs := He.obsX_eq (HandSHeadRun.getT_eq s)
def names : List PySem.Str := (["LeadError", "BadWorth", "BadDeed", "MOST_NUMBER", "MOST_LETTERS", "MOST_MEMBERS", "MOST_WITHIN", "LETTERS", "FILLED", "EARLY", "Fallen", "is_number", "is_word", "is_within", "is_worth", "kind_of", "check_kinds", "summed", "member", "put_in", "filled", "united", "listed", "operands_of", "reflected", "DEEDS", "MAKING", "made_by", "told_by", "done"] : List PySem.Str) ++ (["_law_cell_at", "_law_numbers", "_law_by", "_law_draws", "_law_kind", "_law_sum", "_law_two", "_law_one", "_law_fill", "_law_is_pair", "_law_deed", "_law_words", "_law_worth", "_law_fit", "_law_all_right"] : List PySem.Str)
set_option maxHeartbeats 0 in
theorem run (w : World) : HandSHeadRun.RunEq RR (PySem.W.view RR.prog [48]) hk ob 8000 names w := by
  intro os
  kernel_rfl
end RF
open PySem PySem.W PySem.Calls PyProof.Rows RF
theorem law_holds_if (hlaw : ∀ ns : List Int, ns.length ≤ 63 → ∃ h', RF.m_law [.frz (ns.map RF.D.int)] [] = .ok (.bl true) h') : PySem.Challenge.rw_selflead_k31_whole_worths.Holds := by
  w_on; o_law
  refine HandSHeadRun.head_any (r := OpenLaw.row PySem.Challenge.rw_selflead_k31_whole_worths) (q := view (OpenLaw.row PySem.Challenge.rw_selflead_k31_whole_worths).prog [48]) (H := RF.hk) (ob := RF.ob) (M := 8000) (loose := RF.names) (d := HandSHeadRun.topDef (OpenLaw.row PySem.Challenge.rw_selflead_k31_whole_worths).prog 48) (kwd := []) RF.ob_eq
    (by kernel_rfl) (fun s => by kernel_rfl) RF.run (by kernel_rfl) (by kernel_rfl) (by kernel_rfl) (by rfl) (by first | assumption | decide +kernel) (by decide +kernel) ⟨rfl, rfl, rfl, rfl, rfl, by decide +kernel⟩ ?hw ?hc
  case hw => w_witness2
  case hc =>
    refine RF.law_end (l := PySem.Challenge.rw_selflead_k31_whole_worths) (k := 66) (mf := RF.m_law) rfl (by kernel_rfl) ⟨rfl, by decide, by decide⟩ hlaw ?F
    intro w mg fa h Y G hmg0
    obtain ⟨K, KX, c⟩ := Y
    have hmg : mg ("law" : PySem.Str) = some (.ref fa) := by
      have e : (HandSHeadRun.topDef (OpenLaw.row PySem.Challenge.rw_selflead_k31_whole_worths).prog 48).name = ("law" : PySem.Str) := by kernel_rfl
      rw [← e]
      exact hmg0
    have T : RF.Tx K mg := RF.tx_of KX G c.t.d c.more
    obtain ⟨fd, F⟩ := c.t.d.def_ 32 (d := ⟨("law", none), "law", "law", L2.defArgs (RF.top 48), L2.defBody (RF.top 48), L2.defScope (RF.top 48), [], []⟩) rfl
    refine ⟨K, KX, fd, fun s u => (F.bindsA (ps := ["_law_script"]) (fun _ _ _ _ _ _ us hl => match us, hl with | [_], _ => rfl) s [u] rfl), fun base => ?_⟩
    have e := hmg.symm.trans (He.glo_ok KX G (c.t.d.fact 32 (f := .glo "law") rfl))
    cases e
    exact RF.fk_at (RF.f_law T) hmg F

theorem PySem.Challenge.cw_selflead_k31_whole_worths_holds : PySem.Challenge.rw_selflead_k31_whole_worths.Holds :=
  law_holds_if RF.hlaw
