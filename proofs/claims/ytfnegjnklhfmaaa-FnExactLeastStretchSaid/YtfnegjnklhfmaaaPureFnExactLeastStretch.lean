/- For every list of keys and every speed, the program's LeastStretch returns what the reference's LeastStretch returns, and leaves the list alone. No condition. -/
import Derived.Test.YtfnegjnklhfmaaaQImplAreKeys
import Derived.Test.YtfnegjnklhfmaaaQImplDistance
import Derived.Test.YtfnegjnklhfmaaaQImplIsKey
import Derived.Test.YtfnegjnklhfmaaaQImplKeepsSpeed
import Derived.Test.YtfnegjnklhfmaaaQImplKeyAngles
import Derived.Test.YtfnegjnklhfmaaaQImplLeastStretch
import Derived.Test.YtfnegjnklhfmaaaQImplPartChanges
import Derived.Test.YtfnegjnklhfmaaaQImplSpeed
import Derived.Test.YtfnegjnklhfmaaaQImplStretchKeys
import Derived.Test.YtfnegjnklhfmaaaQImplWithin
import Derived.Test.YtfnegjnklhfmaaaQLawsEqKey
import Derived.Test.YtfnegjnklhfmaaaQLawsEqKeyS
import Derived.Test.YtfnegjnklhfmaaaQLawsFnExactLeastStretch
import Derived.Test.YtfnegjnklhfmaaaQLawsSzKeyS
import Derived.Test.YtfnegjnklhfmaaaQLawsToKey
import Derived.Test.YtfnegjnklhfmaaaQLawsToKeyS
import Derived.Test.YtfnegjnklhfmaaaQSlicesCloneImplKey
import Derived.Test.YtfnegjnklhfmaaaQSlicesMaxInt
import Derived.Test.YtfnegjnklhfmaaaQSpecAvAngles
import Derived.Test.YtfnegjnklhfmaaaQSpecAvFastest
import Derived.Test.YtfnegjnklhfmaaaQSpecAvFrame
import Derived.Test.YtfnegjnklhfmaaaQSpecAvGood
import Derived.Test.YtfnegjnklhfmaaaQSpecAvKeeps
import Derived.Test.YtfnegjnklhfmaaaQSpecAvMost
import Derived.Test.YtfnegjnklhfmaaaQSpecAvOne
import Derived.Test.YtfnegjnklhfmaaaQSpecAvSpeed
import Derived.Test.YtfnegjnklhfmaaaQSpecAvStretch
import Derived.Test.YtfnegjnklhfmaaaQSpecAvTurn
import Derived.Test.YtfnegjnklhfmaaaQSpecL1Abs
import Derived.Test.YtfnegjnklhfmaaaQSpecL1In
import Derived.Test.YtfnegjnklhfmaaaQSpecL1Most
import Derived.Test.YtfnegjnklhfmaaaQSpecLeastStretch
import Derived.Test.YtfnegjnklhfmaaaQ0
import Derived.Test.YtfnegjnklhfmaaaWWords
import Derived.Lib.Slices
set_option linter.unusedVariables false
set_option linter.unusedSimpArgs false
namespace Go.Proofs.Ytfnegjnklhfmaaa.Pure
open Go.RowKit Go.Proofs.Ytfnegjnklhfmaaa.Q Go.Proofs.YtfnegjnklhfmaaaW.PrintLast Go.Proofs.YtfnegjnklhfmaaaW.PrintWords
theorem Ev.succ {α : Type} {g : Nat → Option α} {r : α} (h : Ev (fun k => g (k + 1)) r) : Ev g r := Ev.step (fun _ => rfl) h
theorem Ev.k {α : Type} {g : Nat → Option α} {o : Option α} {r : α} (hg : ∀ k, g k = o) (h : o = some r) : Ev g r := ⟨0, fun k _ => (hg k).trans h⟩
theorem Ev.eq {α : Type} {g : Nat → Option α} {r r' : α} (h : Ev g r) (e : r = r') : Ev g r' := e ▸ h
/-- From round i up to round n. -/
theorem Ev.upto {β : Type} {L : Nat → Nat → Option β} {r : β} {n : Nat} (hend : Ev (fun k => L k n) r)
    (hstep : ∀ j, j < n → Ev (fun k => L k (j + 1)) r → Ev (fun k => L k j) r) : ∀ i, i ≤ n → Ev (fun k => L k i) r := by
  intro i hi
  obtain ⟨d, hd⟩ : ∃ d, n = i + d := ⟨n - i, by omega⟩
  induction d generalizing i with
  | zero => simp at hd; subst hd; exact hend
  | succ d ih => exact hstep i (by omega) (ih (i + 1) (by omega) (by omega))
/-- A loop that ends early where P fails. -/
theorem Ev.all {β : Type} {L : Nat → Nat → Option β} {P : Nat → Bool} {n : Nat} {a b : β} (hend : Ev (fun k => L k n) a)
    (hyes : ∀ j r, j < n → P j = true → Ev (fun k => L k (j + 1)) r → Ev (fun k => L k j) r) (hno : ∀ j, j < n → P j = false → Ev (fun k => L k j) b) :
    ∀ i, i ≤ n → Ev (fun k => L k i) (if (List.range' i (n - i)).all P then a else b) := by
  intro i hi
  obtain ⟨d, hd⟩ : ∃ d, n = i + d := ⟨n - i, by omega⟩
  induction d generalizing i with
  | zero => simp at hd; subst hd; simpa using hend
  | succ d ih =>
    have h1 : n - i = (n - (i + 1)) + 1 := by omega
    rw [h1, List.range'_succ]
    simp only [List.all_cons]
    rcases Bool.eq_false_or_eq_true (P i) with hP | hP
    · simp only [hP, Bool.true_and]
      exact hyes i _ (by omega) hP (ih (i + 1) (by omega) (by omega))
    · simpa [hP] using hno i (by omega) hP
theorem Ev.all0 {β : Type} {L : Nat → Nat → Option β} {P : Nat → Bool} {n : Nat} {a b : β} (hend : Ev (fun k => L k n) a)
    (hyes : ∀ j r, j < n → P j = true → Ev (fun k => L k (j + 1)) r → Ev (fun k => L k j) r) (hno : ∀ j, j < n → P j = false → Ev (fun k => L k j) b) :
    Ev (fun k => L k 0) (if (List.range n).all P then a else b) := by
  have := Ev.all hend hyes hno 0 (Nat.zero_le _)
  rwa [Nat.sub_zero, ← List.range_eq_range'] at this

theorem wrap_id {x : Int} (h0 : -9223372036854775808 ≤ x) (h1 : x ≤ 9223372036854775807) : wrap64 x = x := by
  unfold wrap64
  omega
theorem wrap_succ {n : Nat} (h : n < 4611686018427387904) : wrap64 ((n : Int) + 1) = ((n + 1 : Nat) : Int) := by
  rw [wrap_id (by omega) (by omega)]
  omega
theorem wrap_pred {n : Nat} (h0 : 0 < n) (h : n < 4611686018427387904) : wrap64 ((n : Int) - 1) = ((n - 1 : Nat) : Int) := by
  rw [wrap_id (by omega) (by omega)]
  omega
theorem nat_nonneg (n : Nat) : (0 ≤ (n : Int)) = True := eq_true (Int.natCast_nonneg n)
def inB (a b c : Int) : Bool := decide (b ≤ a ∧ a ≤ c)
theorem l1In_eq (a b c : Int) : spec_l1In.f a b c = some (inB a b c) := by
  unfold spec_l1In.f inB
  split <;> simp <;> omega
theorem within_eq (a b c : Int) : impl_within.f a b c = some (inB a b c) := by
  unfold impl_within.f inB
  split <;> simp <;> omega
def keyB (a b c d e : Int) : Bool := inB a 0 9999 && (inB b (-90) 180 && (inB c 0 150 && (inB d (-70) 70 && inB e 0 90)))
theorem isKey_eq (a b c d e : Int) : impl_IsKey.f a b c d e = some (keyB a b c d e) := by
  unfold impl_IsKey.f keyB
  simp only [within_eq, Option.bind_some]
  cases inB a 0 9999 <;> cases inB b (-90) 180 <;> cases inB c 0 150 <;> cases inB d (-70) 70 <;> simp
theorem avOne_eq (a b c d e : Int) : spec_avOne.f a b c d e = some (keyB a b c d e) := by
  unfold spec_avOne.f spec_avFrame.f keyB
  simp only [l1In_eq, Option.bind_some]
  cases inB a 0 9999 <;> cases inB b (-90) 180 <;> cases inB c 0 150 <;> cases inB d (-70) 70 <;> simp
theorem rdK (l : List S25) (j : Nat) : rd_T25 l (j : Int) = l.getD j z25 := by simp [rd_T25]
def kat (l : List S25) (j : Nat) : S25 := l.getD j z25
theorem rdk (l : List S25) (j : Nat) : rd_T25 l (j : Int) = kat l j := rdK l j
def kOk (x : S25) : Bool := keyB x.f0 x.f1 x.f2 x.f3 x.f4
def okAt (l : List S25) (i : Nat) : Bool := kOk (kat l i) && (decide (i = 0) || decide ((kat l (i - 1)).f0 < (kat l i).f0))
def goodB (l : List S25) : Bool := if (List.range l.length).all (okAt l) then decide (l.length ≤ 15) else false

theorem avGood_ev (l : List S25) (hl : l.length < 4611686018427387904) : Ev (fun k => spec_avGood.f k l) (goodB l) := by
  unfold spec_avGood.f goodB
  refine Ev.all0 (L := fun k j => spec_avGood.l0 k l l (l.length : Int) (j : Int)) (P := okAt l) (n := l.length) ?_ ?_ ?_
  · refine Ev.succ ?_
    simp only [spec_avGood.l0, Int.lt_irrefl, if_false]
    refine Ev.eq (Ev.now _) ?_
    rw [decide_eq_decide]
    omega
  · intro j r hj hP h
    refine Ev.succ ?_
    have h1 : ((j : Int) < (l.length : Int)) = True := eq_true (by omega)
    simp only [okAt, Bool.and_eq_true, Bool.or_eq_true, decide_eq_true_eq, kOk] at hP
    simp only [spec_avGood.l0, avOne_eq, Option.bind_some, h1, if_true, nat_nonneg, rdk, wrap_succ (show j < 4611686018427387904 by omega), hP.1]
    by_cases h0 : j = 0
    · subst h0
      exact h
    · have h2 : ((j : Int) > 0) = True := eq_true (by omega)
      have h3 : (((j - 1 : Nat) : Int) < (l.length : Int)) = True := eq_true (by omega)
      have h4 : ((kat l (j - 1)).f0 ≥ (kat l j).f0) = False := eq_false (by have := hP.2.resolve_left h0; omega)
      simp only [h2, if_true, wrap_pred (show 0 < j by omega) (show j < 4611686018427387904 by omega), nat_nonneg, h3, rdk, h4, if_false]
      exact h
  · intro j hj hP
    refine Ev.succ ?_
    have h1 : ((j : Int) < (l.length : Int)) = True := eq_true (by omega)
    simp only [okAt, kOk] at hP
    simp only [spec_avGood.l0, avOne_eq, Option.bind_some, h1, if_true, nat_nonneg, rdk, wrap_succ (show j < 4611686018427387904 by omega)]
    rcases Bool.eq_false_or_eq_true (keyB (kat l j).f0 (kat l j).f1 (kat l j).f2 (kat l j).f3 (kat l j).f4) with hk | hk
    · simp only [hk, if_true]
      simp only [hk, Bool.true_and, Bool.or_eq_false_iff, decide_eq_false_iff_not] at hP
      have h2 : ((j : Int) > 0) = True := eq_true (by omega)
      have h3 : (((j - 1 : Nat) : Int) < (l.length : Int)) = True := eq_true (by omega)
      have h4 : ((kat l (j - 1)).f0 ≥ (kat l j).f0) = True := eq_true (by omega)
      simp only [h2, if_true, wrap_pred (show 0 < j by omega) (show j < 4611686018427387904 by omega), nat_nonneg, h3, rdk, h4]
      exact Ev.now _
    · simp only [hk]
      exact Ev.now _
theorem areKeys_ev (l : List S25) (hl : l.length < 4611686018427387904) : Ev (fun k => impl_AreKeys.f k l) (goodB l) := by
  unfold impl_AreKeys.f goodB
  refine Ev.all0 (L := fun k j => impl_AreKeys.l0 k l l (l.length : Int) (j : Int)) (P := okAt l) (n := l.length) ?_ ?_ ?_
  · refine Ev.succ ?_
    simp only [impl_AreKeys.l0, Int.lt_irrefl, if_false]
    refine Ev.eq (Ev.now _) ?_
    rw [decide_eq_decide]
    omega
  · intro j r hj hP h
    refine Ev.succ ?_
    have h1 : ((j : Int) < (l.length : Int)) = True := eq_true (by omega)
    simp only [okAt, Bool.and_eq_true, Bool.or_eq_true, decide_eq_true_eq, kOk] at hP
    simp only [impl_AreKeys.l0, isKey_eq, Option.bind_some, h1, if_true, nat_nonneg, rdk, wrap_succ (show j < 4611686018427387904 by omega), hP.1]
    by_cases h0 : j = 0
    · subst h0
      exact h
    · have h2 : ((j : Int) > 0) = True := eq_true (by omega)
      have h3 : (((j - 1 : Nat) : Int) < (l.length : Int)) = True := eq_true (by omega)
      have h4 : ((kat l j).f0 ≤ (kat l (j - 1)).f0) = False := eq_false (by have := hP.2.resolve_left h0; omega)
      simp only [h2, if_true, wrap_pred (show 0 < j by omega) (show j < 4611686018427387904 by omega), nat_nonneg, h3, rdk, h4, if_false]
      exact h
  · intro j hj hP
    refine Ev.succ ?_
    have h1 : ((j : Int) < (l.length : Int)) = True := eq_true (by omega)
    simp only [okAt, kOk] at hP
    simp only [impl_AreKeys.l0, isKey_eq, Option.bind_some, h1, if_true, nat_nonneg, rdk, wrap_succ (show j < 4611686018427387904 by omega)]
    rcases Bool.eq_false_or_eq_true (keyB (kat l j).f0 (kat l j).f1 (kat l j).f2 (kat l j).f3 (kat l j).f4) with hk | hk
    · simp only [hk, if_true]
      simp only [hk, Bool.true_and, Bool.or_eq_false_iff, decide_eq_false_iff_not] at hP
      have h2 : ((j : Int) > 0) = True := eq_true (by omega)
      have h3 : (((j - 1 : Nat) : Int) < (l.length : Int)) = True := eq_true (by omega)
      have h4 : ((kat l j).f0 ≤ (kat l (j - 1)).f0) = True := eq_true (by omega)
      simp only [h2, if_true, wrap_pred (show 0 < j by omega) (show j < 4611686018427387904 by omega), nat_nonneg, h3, rdk, h4]
      exact Ev.now _
    · simp only [hk]
      exact Ev.now _

/-- What good keys are. -/
structure Good (l : List S25) : Prop where
  len : l.length ≤ 15
  key : ∀ i, i < l.length → (0 ≤ (kat l i).f0 ∧ (kat l i).f0 ≤ 9999) ∧ (-90 ≤ (kat l i).f1 ∧ (kat l i).f1 ≤ 180) ∧ (0 ≤ (kat l i).f2 ∧ (kat l i).f2 ≤ 150) ∧ (-70 ≤ (kat l i).f3 ∧ (kat l i).f3 ≤ 70) ∧ (0 ≤ (kat l i).f4 ∧ (kat l i).f4 ≤ 90)
  inc : ∀ i, i + 1 < l.length → (kat l i).f0 < (kat l (i + 1)).f0
theorem kOk_iff (x : S25) : kOk x = true ↔ (0 ≤ x.f0 ∧ x.f0 ≤ 9999) ∧ (-90 ≤ x.f1 ∧ x.f1 ≤ 180) ∧ (0 ≤ x.f2 ∧ x.f2 ≤ 150) ∧ (-70 ≤ x.f3 ∧ x.f3 ≤ 70) ∧ (0 ≤ x.f4 ∧ x.f4 ≤ 90) := by
  simp [kOk, keyB, inB]
theorem goodB_iff (l : List S25) : goodB l = true ↔ Good l := by
  unfold goodB
  constructor
  · intro h
    split at h
    · rename_i ha
      have ha' : ∀ i, i < l.length → okAt l i = true := fun i hi => List.all_eq_true.1 ha i (List.mem_range.2 hi)
      refine ⟨of_decide_eq_true h, fun i hi => ?_, fun i hi => ?_⟩
      · have := ha' i hi
        simp only [okAt, Bool.and_eq_true] at this
        exact (kOk_iff _).1 this.1
      · have := ha' (i + 1) hi
        simp only [okAt, Bool.and_eq_true, Bool.or_eq_true, decide_eq_true_eq] at this
        have h2 := this.2.resolve_left (by omega)
        simpa using h2
    · cases h
  · intro h
    rw [if_pos ?_]
    · exact decide_eq_true h.len
    · refine List.all_eq_true.2 fun i hi => ?_
      have hi := List.mem_range.1 hi
      simp only [okAt, Bool.and_eq_true, Bool.or_eq_true, decide_eq_true_eq]
      refine ⟨(kOk_iff _).2 (h.key i hi), ?_⟩
      by_cases h0 : i = 0
      · exact .inl h0
      · refine .inr ?_
        have := h.inc (i - 1) (by omega)
        rwa [show i - 1 + 1 = i by omega] at this
def ad (x y : Int) : Int := mx (x - y) (y - x)
theorem mx_ge (x y : Int) : x ≤ mx x y ∧ y ≤ mx x y ∧ (mx x y = x ∨ mx x y = y) := by unfold mx; split <;> omega
theorem ad_nonneg (x y : Int) : 0 ≤ ad x y := by have := mx_ge (x - y) (y - x); unfold ad; omega
/-- The four differences of part i. -/
def difs (a b : S25) : List Int := [ad a.f1 b.f1, ad a.f2 b.f2, ad a.f3 b.f3, ad a.f4 b.f4]
def KIn (x : S25) : Prop := (0 ≤ x.f0 ∧ x.f0 ≤ 9999) ∧ (-90 ≤ x.f1 ∧ x.f1 ≤ 180) ∧ (0 ≤ x.f2 ∧ x.f2 ≤ 150) ∧ (-70 ≤ x.f3 ∧ x.f3 ≤ 70) ∧ (0 ≤ x.f4 ∧ x.f4 ≤ 90)

theorem rd4_0 (a b c d : Int) : rd [a, b, c, d] (0 : Int) = a := rfl
theorem rd4_1 (a b c d : Int) : rd [a, b, c, d] (1 : Int) = b := rfl
theorem rd4_2 (a b c d : Int) : rd [a, b, c, d] (2 : Int) = c := rfl
theorem rd4_3 (a b c d : Int) : rd [a, b, c, d] (3 : Int) = d := rfl
theorem w1 : wrap64 ((0 : Int) + 1) = 1 := by rw [wrap_id (by decide) (by decide)]; rfl
theorem w2 : wrap64 ((1 : Int) + 1) = 2 := by rw [wrap_id (by decide) (by decide)]; rfl
theorem w3 : wrap64 ((2 : Int) + 1) = 3 := by rw [wrap_id (by decide) (by decide)]; rfl
theorem w4 : wrap64 ((3 : Int) + 1) = 4 := by rw [wrap_id (by decide) (by decide)]; rfl

theorem dist_eq (x y : Int) (h : -1000 ≤ x ∧ x ≤ 1000) (h' : -1000 ≤ y ∧ y ≤ 1000) : impl_distance.f x y = some (ad x y) := by
  unfold impl_distance.f ad
  rw [wrap_id (by omega) (by omega), wrap_id (by omega) (by omega)]
theorem l1Abs_eq (x y : Int) (h : -1000 ≤ x ∧ x ≤ 1000) (h' : -1000 ≤ y ∧ y ≤ 1000) : spec_l1Abs.f (wrap64 (x - y)) = some (ad x y) := by
  unfold spec_l1Abs.f spec_l1Most.f ad mx
  rw [wrap_id (x := x - y) (by omega) (by omega), wrap_id (by omega) (by omega)]
  split <;> split <;> simp <;> omega

theorem partChanges_ev (l : List S25) (i : Nat) (hi : i + 1 < l.length) (hl : l.length < 4611686018427387904) (ha : KIn (kat l i)) (hb : KIn (kat l (i + 1))) :
    Ev (fun k => impl_partChanges.f k l (i : Int)) (difs (kat l i) (kat l (i + 1))) := by
  obtain ⟨_, a1, a2, a3, a4⟩ := ha
  obtain ⟨_, b1, b2, b3, b4⟩ := hb
  have h1 : ((i : Int) < (l.length : Int)) = True := eq_true (by omega)
  have h2 : (((i + 1 : Nat) : Int) < (l.length : Int)) = True := eq_true (by omega)
  unfold impl_partChanges.f difs
  simp only [nat_nonneg, h1, if_true, impl_Key_angles.f, Option.bind_some, rdk, List.length_cons, List.length_nil]
  refine Ev.succ (Ev.succ (Ev.succ (Ev.succ (Ev.succ ?_))))
  simp only [impl_partChanges.l0, wrap_succ (show i < 4611686018427387904 by omega), nat_nonneg, h2, if_true, impl_Key_angles.f, Option.bind_some, rdk, List.length_cons, List.length_nil, rd4_0, rd4_1, rd4_2, rd4_3, w1, w2, w3, w4, List.nil_append, List.cons_append,
    dist_eq _ _ (show -1000 ≤ (kat l i).f1 ∧ (kat l i).f1 ≤ 1000 by omega) (show -1000 ≤ (kat l (i + 1)).f1 ∧ (kat l (i + 1)).f1 ≤ 1000 by omega),
    dist_eq _ _ (show -1000 ≤ (kat l i).f2 ∧ (kat l i).f2 ≤ 1000 by omega) (show -1000 ≤ (kat l (i + 1)).f2 ∧ (kat l (i + 1)).f2 ≤ 1000 by omega),
    dist_eq _ _ (show -1000 ≤ (kat l i).f3 ∧ (kat l i).f3 ≤ 1000 by omega) (show -1000 ≤ (kat l (i + 1)).f3 ∧ (kat l (i + 1)).f3 ≤ 1000 by omega),
    dist_eq _ _ (show -1000 ≤ (kat l i).f4 ∧ (kat l i).f4 ≤ 1000 by omega) (show -1000 ≤ (kat l (i + 1)).f4 ∧ (kat l (i + 1)).f4 ≤ 1000 by omega)]
  simp
  exact Ev.now _

def tstep (s : Int × Int) (i n : Int) : Int × Int := if n > s.2 then (i, n) else s
def turn4 (a b c d : Int) : Int × Int := tstep (tstep (tstep (tstep (0, -1) 0 a) 1 b) 2 c) 3 d
def turnOf (x y : S25) : Int × Int := turn4 (ad x.f1 y.f1) (ad x.f2 y.f2) (ad x.f3 y.f3) (ad x.f4 y.f4)
theorem avTurn_ev (x y : S25) (ha : KIn x) (hb : KIn y) : Ev (fun k => spec_avTurn.f k x.f0 x.f1 x.f2 x.f3 x.f4 y.f0 y.f1 y.f2 y.f3 y.f4) (turnOf x y) := by
  obtain ⟨_, a1, a2, a3, a4⟩ := ha
  obtain ⟨_, b1, b2, b3, b4⟩ := hb
  unfold spec_avTurn.f turnOf turn4
  simp only [spec_avAngles.f, Option.bind_some, List.length_cons, List.length_nil]
  have e1 := l1Abs_eq x.f1 y.f1 (by omega) (by omega)
  have e2 := l1Abs_eq x.f2 y.f2 (by omega) (by omega)
  have e3 := l1Abs_eq x.f3 y.f3 (by omega) (by omega)
  have e4 := l1Abs_eq x.f4 y.f4 (by omega) (by omega)
  generalize ad x.f1 y.f1 = p1 at *
  generalize ad x.f2 y.f2 = p2 at *
  generalize ad x.f3 y.f3 = p3 at *
  generalize ad x.f4 y.f4 = p4 at *
  have step : ∀ (s : Int × Int) (i : Int) (n : Int) (g : Nat → Int × Int → Option (Int × Int)) (r : Int × Int), Ev (fun k => g k (tstep s i n)) r → Ev (fun k => if n > s.2 then g k (i, n) else g k s) r := by
    intro s i n g r h
    unfold tstep at h
    by_cases hc : n > s.2
    · simpa only [eq_true hc, if_true] using h
    · simpa only [eq_false hc, if_false] using h
  refine Ev.succ ?_
  simp only [spec_avTurn.l0, List.length_cons, List.length_nil, rd4_0, e1, Option.bind_some, w1]
  refine step (0, -1) 0 p1 (fun k s => spec_avTurn.l0 k [x.f1, x.f2, x.f3, x.f4] [y.f1, y.f2, y.f3, y.f4] s.1 s.2 _ 1) _ ?_
  refine Ev.succ ?_
  simp only [spec_avTurn.l0, List.length_cons, List.length_nil, rd4_1, e2, Option.bind_some, w2]
  refine step (tstep (0, -1) 0 p1) 1 p2 (fun k s => spec_avTurn.l0 k [x.f1, x.f2, x.f3, x.f4] [y.f1, y.f2, y.f3, y.f4] s.1 s.2 _ 2) _ ?_
  refine Ev.succ ?_
  simp only [spec_avTurn.l0, List.length_cons, List.length_nil, rd4_2, e3, Option.bind_some, w3]
  refine step (tstep (tstep (0, -1) 0 p1) 1 p2) 2 p3 (fun k s => spec_avTurn.l0 k [x.f1, x.f2, x.f3, x.f4] [y.f1, y.f2, y.f3, y.f4] s.1 s.2 _ 3) _ ?_
  refine Ev.succ ?_
  simp only [spec_avTurn.l0, List.length_cons, List.length_nil, rd4_3, e4, Option.bind_some, w4]
  refine step (tstep (tstep (tstep (0, -1) 0 p1) 1 p2) 2 p3) 3 p4 (fun k s => spec_avTurn.l0 k [x.f1, x.f2, x.f3, x.f4] [y.f1, y.f2, y.f3, y.f4] s.1 s.2 _ 4) _ ?_
  refine Ev.succ ?_
  simp only [spec_avTurn.l0]
  exact Ev.now _

def dmax (x y : S25) : Int := Lib.maxOf (difs x y)
theorem turn_facts (a b c d : Int) (ha : 0 ≤ a) (hb : 0 ≤ b) (hc : 0 ≤ c) (hd : 0 ≤ d) :
    (turn4 a b c d).2 = Lib.maxOf [a, b, c, d] ∧ 0 ≤ (turn4 a b c d).1 ∧ (turn4 a b c d).1 ≤ 3 ∧
    (if Lib.maxOf [a, b, c, d] = a then (turn4 a b c d).1 = 0 else if Lib.maxOf [a, b, c, d] = b then (turn4 a b c d).1 = 1 else if Lib.maxOf [a, b, c, d] = c then (turn4 a b c d).1 = 2 else (turn4 a b c d).1 = 3) ∧ (Lib.maxOf [a, b, c, d] = a ∨ Lib.maxOf [a, b, c, d] = b ∨ Lib.maxOf [a, b, c, d] = c ∨ Lib.maxOf [a, b, c, d] = d) := by
  have e : Lib.maxOf [a, b, c, d] = max (max (max (max a a) b) c) d := rfl
  rw [e]
  unfold turn4 tstep
  by_cases h1 : b > a <;> by_cases h2 : c > b <;> by_cases h3 : c > a <;> by_cases h4 : d > c <;> by_cases h5 : d > b <;> by_cases h6 : d > a <;>
    first
    | (exfalso; omega)
    | (have h7 : max (max (max (max a a) b) c) d = d := by omega
       rw [h7]
       simp [show a > -1 by omega, h1, h2, h3, h4, h5, h6]
       done)
    | (have h7 : max (max (max (max a a) b) c) d = d := by omega
       rw [h7]
       simp [show a > -1 by omega, h1, h2, h3, h4, h5, h6]
       omega)
    | (have h7 : max (max (max (max a a) b) c) d = c := by omega
       rw [h7]
       simp [show a > -1 by omega, h1, h2, h3, h4, h5, h6]
       done)
    | (have h7 : max (max (max (max a a) b) c) d = c := by omega
       rw [h7]
       simp [show a > -1 by omega, h1, h2, h3, h4, h5, h6]
       omega)
    | (have h7 : max (max (max (max a a) b) c) d = b := by omega
       rw [h7]
       simp [show a > -1 by omega, h1, h2, h3, h4, h5, h6]
       done)
    | (have h7 : max (max (max (max a a) b) c) d = b := by omega
       rw [h7]
       simp [show a > -1 by omega, h1, h2, h3, h4, h5, h6]
       omega)
    | (have h7 : max (max (max (max a a) b) c) d = a := by omega
       rw [h7]
       simp [show a > -1 by omega, h1, h2, h3, h4, h5, h6]
       done)
    | (have h7 : max (max (max (max a a) b) c) d = a := by omega
       rw [h7]
       simp [show a > -1 by omega, h1, h2, h3, h4, h5, h6]
       omega)

def sp (l : List S25) (i : Nat) : Int := (dmax (kat l i) (kat l (i + 1)) + ((kat l (i + 1)).f0 - (kat l i).f0) - 1) / ((kat l (i + 1)).f0 - (kat l i).f0)
theorem dmax_bounds (x y : S25) (ha : KIn x) (hb : KIn y) : 0 ≤ dmax x y ∧ dmax x y ≤ 270 := by
  obtain ⟨_, a1, a2, a3, a4⟩ := ha
  obtain ⟨_, b1, b2, b3, b4⟩ := hb
  have e : dmax x y = max (max (max (max (ad x.f1 y.f1) (ad x.f1 y.f1)) (ad x.f2 y.f2)) (ad x.f3 y.f3)) (ad x.f4 y.f4) := rfl
  rw [e]
  have h1 : 0 ≤ ad x.f1 y.f1 ∧ ad x.f1 y.f1 ≤ 270 := by unfold ad mx; split <;> omega
  have h2 : 0 ≤ ad x.f2 y.f2 ∧ ad x.f2 y.f2 ≤ 270 := by unfold ad mx; split <;> omega
  have h3 : 0 ≤ ad x.f3 y.f3 ∧ ad x.f3 y.f3 ≤ 270 := by unfold ad mx; split <;> omega
  have h4 : 0 ≤ ad x.f4 y.f4 ∧ ad x.f4 y.f4 ≤ 270 := by unfold ad mx; split <;> omega
  omega
theorem turnOf_2 (x y : S25) : (turnOf x y).2 = dmax x y := (turn_facts _ _ _ _ (ad_nonneg _ _) (ad_nonneg _ _) (ad_nonneg _ _) (ad_nonneg _ _)).1
theorem sp_nonneg {l : List S25} (hg : Good l) (i : Nat) (hi : i + 1 < l.length) : 0 ≤ sp l i := by
  have h1 := hg.inc i hi
  have h2 := dmax_bounds _ _ (hg.key i (by omega)) (hg.key (i + 1) hi)
  unfold sp
  exact Int.ediv_nonneg (by omega) (by omega)
theorem tdiv_pos {a b : Int} (ha : 0 ≤ a) : Int.tdiv a b = a / b := Int.tdiv_eq_ediv_of_nonneg ha
theorem speed_arith (m f : Int) (hm : 0 ≤ m ∧ m ≤ 270) (hf : 0 < f ∧ f ≤ 9999) : wrap64 (Int.tdiv (wrap64 (wrap64 (m + f) - 1)) f) = (m + f - 1) / f := by
  rw [wrap_id (x := m + f) (by omega) (by omega), wrap_id (x := m + f - 1) (by omega) (by omega), tdiv_pos (by omega)]
  have h1 : 0 ≤ (m + f - 1) / f := Int.ediv_nonneg (by omega) (by omega)
  have h2 : (m + f - 1) / f ≤ m + f - 1 := Int.ediv_le_self _ (by omega)
  exact wrap_id (by omega) (by omega)
theorem speed_ev {l : List S25} (hg : Good l) (i : Nat) (hi : i + 1 < l.length) : Ev (fun k => impl_speed.f k l (i : Int)) (sp l i) := by
  have hlen := hg.len
  have h1 : ((i : Int) < (l.length : Int)) = True := eq_true (by omega)
  have h2 : (((i + 1 : Nat) : Int) < (l.length : Int)) = True := eq_true (by omega)
  have ha := hg.key i (by omega)
  have hb := hg.key (i + 1) hi
  have hc := hg.inc i hi
  have hd := dmax_bounds _ _ ha hb
  have he : wrap64 ((kat l (i + 1)).f0 - (kat l i).f0) = (kat l (i + 1)).f0 - (kat l i).f0 := wrap_id (by omega) (by omega)
  unfold impl_speed.f
  simp only [wrap_succ (show i < 4611686018427387904 by omega), nat_nonneg, h1, h2, if_true]
  refine Ev.bind (partChanges_ev l i hi (by omega) ha hb) ?_
  have hmax : slices_Max_int.f (difs (kat l i) (kat l (i + 1))) = some (dmax (kat l i) (kat l (i + 1))) := by
    unfold slices_Max_int.f difs dmax
    simp [difs]
  simp only [hmax, Option.bind_some, rdk, he, show ((kat l (i + 1)).f0 - (kat l i).f0 = 0) = False from eq_false (by omega), if_false, speed_arith _ _ hd (show 0 < (kat l (i + 1)).f0 - (kat l i).f0 ∧ (kat l (i + 1)).f0 - (kat l i).f0 ≤ 9999 by omega)]
  exact Ev.now _
theorem avSpeed_ev {l : List S25} (hg : Good l) (i : Nat) (hi : i + 1 < l.length) : Ev (fun k => spec_avSpeed.f k l (i : Int)) (sp l i) := by
  have hlen := hg.len
  have h1 : ((i : Int) < (l.length : Int)) = True := eq_true (by omega)
  have h2 : (((i + 1 : Nat) : Int) < (l.length : Int)) = True := eq_true (by omega)
  have ha := hg.key i (by omega)
  have hb := hg.key (i + 1) hi
  have hc := hg.inc i hi
  have hd := dmax_bounds _ _ ha hb
  have he : wrap64 ((kat l (i + 1)).f0 - (kat l i).f0) = (kat l (i + 1)).f0 - (kat l i).f0 := wrap_id (by omega) (by omega)
  unfold spec_avSpeed.f
  simp only [wrap_succ (show i < 4611686018427387904 by omega), nat_nonneg, h1, h2, if_true, rdk]
  refine Ev.bind (avTurn_ev _ _ ha hb) ?_
  simp only [turnOf_2, he, show ((kat l (i + 1)).f0 - (kat l i).f0 = 0) = False from eq_false (by omega), if_false, speed_arith _ _ hd (show 0 < (kat l (i + 1)).f0 - (kat l i).f0 ∧ (kat l (i + 1)).f0 - (kat l i).f0 ≤ 9999 by omega)]
  exact Ev.now _
/-- The first fastest of the first parts. -/
def bestOf (f : Nat → Int) : Nat → Nat
  | 0 => 0
  | j + 1 => if f j > f (bestOf f j) then j else bestOf f j
theorem bestOf_lt (f : Nat → Int) : ∀ j, 0 < j → bestOf f j < j
  | 1, _ => by simp [bestOf]
  | j + 2, _ => by
    have := bestOf_lt f (j + 1) (by omega)
    rw [bestOf]
    split <;> omega
theorem bestOf_le (f : Nat → Int) (j : Nat) : ∀ i, i < j → f i ≤ f (bestOf f j) := by
  induction j with
  | zero => intro i hi; omega
  | succ j ih =>
    intro i hi
    rw [bestOf]
    by_cases h : i = j
    · subst h
      split <;> omega
    · have := ih i (by omega)
      split <;> omega
def mostOf (f : Nat → Int) (j : Nat) : Int := if j = 0 then -1 else f (bestOf f j)

theorem len_pred {l : List S25} (h : l.length < 4611686018427387904) : wrap64 ((l.length : Int) - 1) = (l.length : Int) - 1 := wrap_id (by omega) (by omega)

theorem avFastest_ev {l : List S25} (hg : Good l) : Ev (fun k => spec_avFastest.f k l) ((bestOf (sp l) (l.length - 1) : Int), mostOf (sp l) (l.length - 1)) := by
  have hlen := hg.len
  unfold spec_avFastest.f
  have key := Ev.upto (L := fun k j => spec_avFastest.l0 k l (bestOf (sp l) j : Int) (mostOf (sp l) j) (j : Int)) (n := l.length - 1) (r := ((bestOf (sp l) (l.length - 1) : Int), mostOf (sp l) (l.length - 1)))
    (by
      refine Ev.succ ?_
      have h1 : (((l.length - 1 + 1 : Nat) : Int) < (l.length : Int)) = False := eq_false (by omega)
      simp only [spec_avFastest.l0, wrap_succ (show l.length - 1 < 4611686018427387904 by omega), h1, if_false]
      exact Ev.now _)
    (by
      intro j hj h
      refine Ev.succ ?_
      have h1 : (((j + 1 : Nat) : Int) < (l.length : Int)) = True := eq_true (by omega)
      simp only [spec_avFastest.l0, wrap_succ (show j < 4611686018427387904 by omega), h1, if_true]
      refine Ev.bind (avSpeed_ev hg j (by omega)) ?_
      have hp := sp_nonneg hg j (by omega)
      by_cases h0 : j = 0
      · subst h0
        have h2 : (sp l 0 > mostOf (sp l) 0) = True := eq_true (by simp [mostOf]; omega)
        simp only [h2, if_true]
        have e1 : bestOf (sp l) (0 + 1) = 0 := by simp [bestOf]
        have e2 : mostOf (sp l) (0 + 1) = sp l 0 := by simp [mostOf, e1, bestOf]
        rw [e1, e2] at h
        exact h
      · have e3 : mostOf (sp l) j = sp l (bestOf (sp l) j) := by simp [mostOf, h0]
        have e4 : mostOf (sp l) (j + 1) = sp l (bestOf (sp l) (j + 1)) := by simp [mostOf]
        by_cases hc : sp l j > sp l (bestOf (sp l) j)
        · have e5 : bestOf (sp l) (j + 1) = j := by rw [bestOf, if_pos hc]
          rw [e5] at h e4
          rw [e4] at h
          simp only [e3, eq_true hc, if_true]
          exact h
        · have e5 : bestOf (sp l) (j + 1) = bestOf (sp l) j := by rw [bestOf, if_neg hc]
          rw [e5] at h e4
          rw [e4] at h
          simp only [e3, eq_false hc, if_false]
          exact h)
    0 (Nat.zero_le _)
  simpa [bestOf, mostOf] using key

def keepsB (l : List S25) (most : Int) : Bool := decide (mostOf (sp l) (l.length - 1) ≤ most)
theorem avKeeps_ev {l : List S25} (hg : Good l) (most : Int) : Ev (fun k => spec_avKeeps.f k l most) (keepsB l most) := by
  unfold spec_avKeeps.f
  refine Ev.bind (avFastest_ev hg) ?_
  exact Ev.now _
theorem keepsSpeed_ev {l : List S25} (hg : Good l) (most : Int) (hm : 0 ≤ most) : Ev (fun k => impl_keepsSpeed.f k l most) (keepsB l most) := by
  have hlen := hg.len
  unfold impl_keepsSpeed.f
  rw [len_pred (by omega)]
  have key := Ev.all0 (L := fun k j => impl_keepsSpeed.l0 k l most ((l.length : Int) - 1) (j : Int)) (P := fun j => decide (sp l j ≤ most)) (n := l.length - 1) (a := true) (b := false)
    (by
      refine Ev.succ ?_
      have h1 : (((l.length - 1 : Nat) : Int) < (l.length : Int) - 1) = False := eq_false (by omega)
      simp only [impl_keepsSpeed.l0, h1, if_false]
      exact Ev.now _)
    (by
      intro j r hj hP h
      refine Ev.succ ?_
      have h1 : ((j : Int) < (l.length : Int) - 1) = True := eq_true (by omega)
      simp only [impl_keepsSpeed.l0, h1, if_true]
      refine Ev.bind (speed_ev hg j (by omega)) ?_
      have h2 : (sp l j > most) = False := eq_false (by have := of_decide_eq_true hP; omega)
      simp only [h2, if_false, wrap_succ (show j < 4611686018427387904 by omega)]
      exact h)
    (by
      intro j hj hP
      refine Ev.succ ?_
      have h1 : ((j : Int) < (l.length : Int) - 1) = True := eq_true (by omega)
      simp only [impl_keepsSpeed.l0, h1, if_true]
      refine Ev.bind (speed_ev hg j (by omega)) ?_
      have h2 : (sp l j > most) = True := eq_true (by have := of_decide_eq_false hP; omega)
      simp only [h2, if_true]
      exact Ev.now _)
  refine Ev.eq key ?_
  unfold keepsB
  by_cases h0 : l.length - 1 = 0
  · simp [h0, mostOf]
    omega
  · by_cases hc : mostOf (sp l) (l.length - 1) ≤ most
    · rw [if_pos, decide_eq_true hc]
      refine List.all_eq_true.2 fun i hi => ?_
      have hi := List.mem_range.1 hi
      have h3 := bestOf_le (sp l) (l.length - 1) i hi
      have h4 : mostOf (sp l) (l.length - 1) = sp l (bestOf (sp l) (l.length - 1)) := by simp [mostOf, h0]
      exact decide_eq_true (by omega)
    · rw [if_neg, decide_eq_false hc]
      intro ha
      have h3 := List.all_eq_true.1 ha (bestOf (sp l) (l.length - 1)) (List.mem_range.2 (bestOf_lt _ _ (by omega)))
      have h4 : mostOf (sp l) (l.length - 1) = sp l (bestOf (sp l) (l.length - 1)) := by simp [mostOf, h0]
      exact hc (by rw [h4]; exact of_decide_eq_true h3)

theorem clone_eq (l : List S25) (hl : l.length < 3518437208883) : slices_Clone_impl_Key.f l = some l := by
  unfold slices_Clone_impl_Key.f
  simp [hl]
def str (t : Int) (x : S25) : S25 := ⟨wrap64 (x.f0 * t), x.f1, x.f2, x.f3, x.f4⟩
/-- A list made by appending. -/
theorem push_ev {β : Type} (f : S25 → S25) (l : List S25) (L : Nat → List S25 → Int → Option β) (r : β)
    (hstep : ∀ j, j < l.length → ∀ k, L (k + 1) ((l.map f).take j) (j : Int) = L k ((l.map f).take j ++ [f (kat l j)]) ((j + 1 : Nat) : Int))
    (hend : Ev (fun k => L k (l.map f) (l.length : Int)) r) : Ev (fun k => L k [] 0) r := by
  have key := Ev.upto (L := fun k j => L k ((l.map f).take j) (j : Int)) (n := l.length) (r := r)
    (by rw [List.take_of_length_le (by simp)]; exact hend)
    (by
      intro j hj h
      refine Ev.succ ?_
      simp only [hstep j hj]
      have e : (l.map f).take j ++ [f (kat l j)] = (l.map f).take (j + 1) := by
        rw [List.take_succ_eq_append_getElem (by simpa using hj)]
        simp [kat, List.getD_eq_getElem?_getD, List.getElem?_eq_getElem hj]
      rw [e]
      exact h)
    0 (Nat.zero_le _)
  simpa using key
/-- A list turned in place. -/
theorem turn_ev {β : Type} (f : S25 → S25) (l : List S25) (L : Nat → List S25 → Int → Option β) (r : β)
    (hstep : ∀ j, j < l.length → ∀ k (s : List S25), s.length = l.length → kat s j = kat l j → L (k + 1) s (j : Int) = L k (s.set j (f (kat l j))) ((j + 1 : Nat) : Int))
    (hend : Ev (fun k => L k (l.map f) (l.length : Int)) r) : Ev (fun k => L k l 0) r := by
  have key := Ev.upto (L := fun k j => L k ((l.map f).take j ++ l.drop j) (j : Int)) (n := l.length) (r := r)
    (by rw [List.take_of_length_le (by simp), List.drop_length, List.append_nil]; exact hend)
    (by
      intro j hj h
      refine Ev.succ ?_
      have hlen : ((l.map f).take j ++ l.drop j).length = l.length := by simp; omega
      have hk : kat ((l.map f).take j ++ l.drop j) j = kat l j := by
        unfold kat
        rw [List.getD_eq_getElem?_getD, List.getElem?_append_right (by simp; omega)]
        simp [Nat.min_eq_left (Nat.le_of_lt hj), List.getD_eq_getElem?_getD]
      simp only [hstep j hj _ _ hlen hk]
      have e : ((l.map f).take j ++ l.drop j).set j (f (kat l j)) = (l.map f).take (j + 1) ++ l.drop (j + 1) := by
        rw [List.set_append_right _ _ (by simp; omega)]
        have e2 : j - ((l.map f).take j).length = 0 := by simp; omega
        rw [e2, List.drop_eq_getElem_cons hj, List.set_cons_zero, List.take_succ_eq_append_getElem (by simpa using hj)]
        simp [kat, List.getD_eq_getElem?_getD, List.getElem?_eq_getElem hj]
      rw [e]
      exact h)
    0 (Nat.zero_le _)
  simpa using key

def strB (l : List S25) (t : Int) : List S25 × Bool := if goodB (l.map (str t)) then (l.map (str t), true) else ([], false)
def strR (l : List S25) (t : Int) : List S25 × Bool := if goodB l && inB t 1 20 then strB l t else ([], false)
theorem avStretch_ev (l : List S25) (t : Int) (hl : l.length ≤ 3518437208780) : Ev (fun k => spec_avStretch.f k l t) (strB l t) := by
  unfold spec_avStretch.f
  refine push_ev (str t) l (fun k s j => spec_avStretch.l0 k t s l (l.length : Int) j) _ ?_ ?_
  · intro j hj k
    have h1 : ((j : Int) < (l.length : Int)) = True := eq_true (by omega)
    have h2 : (((l.map (str t)).take j).length < 3518437208883) = True := eq_true (by simp; omega)
    simp only [spec_avStretch.l0, h1, if_true, nat_nonneg, h2, rdk, wrap_succ (show j < 4611686018427387904 by omega)]
    rfl
  · refine Ev.succ ?_
    simp only [spec_avStretch.l0, Int.lt_irrefl, if_false]
    refine Ev.bind (avGood_ev _ (by simp; omega)) ?_
    unfold strB
    rcases Bool.eq_false_or_eq_true (goodB (l.map (str t))) with hg | hg <;> simp only [hg] <;> exact Ev.now _
theorem implStretch_ev (l : List S25) (t : Int) (hl : l.length ≤ 3518437208780) : Ev (fun k => impl_StretchKeys.f k l t) (strR l t) := by
  unfold impl_StretchKeys.f strR
  refine Ev.bind (areKeys_ev l (by omega)) ?_
  rcases Bool.eq_false_or_eq_true (goodB l) with hg | hg
  · simp only [hg, if_true, within_eq, Option.bind_some]
    refine Ev.succ ?_
    rcases Bool.eq_false_or_eq_true (inB t 1 20) with hm | hm
    · simp only [impl_StretchKeys.j0, hm, clone_eq l (by omega), Option.bind_some]
      refine turn_ev (str t) l (fun k s j => impl_StretchKeys.l0 k t s (l.length : Int) j) _ ?_ ?_
      · intro j hj k s hs hk
        have h1 : ((j : Int) < (l.length : Int)) = True := eq_true (by omega)
        simp only [impl_StretchKeys.l0, h1, if_true, nat_nonneg, rdk, hs, hk, Int.toNat_natCast, wrap_succ (show j < 4611686018427387904 by omega)]
        rfl
      · refine Ev.succ ?_
        simp only [impl_StretchKeys.l0, Int.lt_irrefl, if_false]
        refine Ev.bind (areKeys_ev _ (by simp; omega)) ?_
        simp only [Bool.true_and, if_true, strB]
        rcases Bool.eq_false_or_eq_true (goodB (l.map (str t))) with hg2 | hg2 <;> simp only [hg2] <;> exact Ev.now _
    · simp only [impl_StretchKeys.j0, hm]
      exact Ev.now _
  · simp only [hg]
    refine Ev.succ ?_
    simp only [impl_StretchKeys.j0]
    exact Ev.now _
def kconv (x : S23) : S25 := ⟨x.f0, x.f1, x.f2, x.f3, x.f4⟩
theorem rdKeyL (l : List S23) (j : Nat) : rd_T23 l (j : Int) = l.getD j z23 := by simp [rd_T23]

theorem toKeyS_ev (l : List S23) (hl : l.length * 40 ≤ 140737488351232) : Ev (fun k => laws_toKeyS.f k l) (l.map kconv) := by
  unfold laws_toKeyS.f
  simp only [nat_nonneg, if_true, Int.toNat_natCast, show (l.length ≤ 7036874417766) = True from eq_true (by omega)]
  have key := Ev.upto (L := fun k j => laws_toKeyS.l0 k l ((l.map kconv).take j ++ List.replicate (l.length - j) z25) (j : Int)) (r := l.map kconv) (n := l.length)
    (by
      refine Ev.succ ?_
      simp only [laws_toKeyS.l0, Int.lt_irrefl, if_false]
      simp only [Nat.sub_self, List.replicate_zero, List.append_nil]
      rw [List.take_of_length_le (by simp)]
      exact Ev.now _)
    (by
      intro j hj h
      refine Ev.succ ?_
      have h1 : ((j : Int) < (l.length : Int)) = True := eq_true (by omega)
      have hlen : ((l.map kconv).take j ++ List.replicate (l.length - j) z25).length = l.length := by simp; omega
      simp only [laws_toKeyS.l0, laws_toKey.f, Option.bind_some, h1, if_true, nat_nonneg, hlen, Int.toNat_natCast, wrap_succ (show j < 4611686018427387904 by omega), rdKeyL]
      have e : ((l.map kconv).take j ++ List.replicate (l.length - j) z25).set j (kconv (l.getD j z23)) = (l.map kconv).take (j + 1) ++ List.replicate (l.length - (j + 1)) z25 := by
        have e1 : l.length - j = (l.length - (j + 1)) + 1 := by omega
        rw [e1, List.replicate_succ, List.set_append_right _ _ (by simp; omega)]
        have e2 : j - ((l.map kconv).take j).length = 0 := by simp; omega
        rw [e2, List.set_cons_zero, List.take_succ_eq_append_getElem (by simpa using hj)]
        simp [List.getD_eq_getElem?_getD, List.getElem?_eq_getElem hj]
      have e3 : (⟨(l.getD j z23).f0, (l.getD j z23).f1, (l.getD j z23).f2, (l.getD j z23).f3, (l.getD j z23).f4⟩ : S25) = kconv (l.getD j z23) := rfl
      rw [e3, e]
      exact h)
    0 (Nat.zero_le _)
  simpa using key

theorem eqKeyS_ev (l : List S25) (hl : l.length < 4611686018427387904) : Ev (fun k => laws_eqKeyS.f k l l) true := by
  unfold laws_eqKeyS.f
  simp only [if_true]
  exact Ev.upto (L := fun k j => laws_eqKeyS.l0 k l l (j : Int)) (r := true) (n := l.length)
    (by
      refine Ev.succ ?_
      simp only [laws_eqKeyS.l0, Int.lt_irrefl, if_false]
      exact Ev.now _)
    (by
      intro j hj h
      refine Ev.succ ?_
      have h1 : ((j : Int) < (l.length : Int)) = True := eq_true (by omega)
      simp only [laws_eqKeyS.l0, laws_eqKey.f, Option.bind_some, h1, if_true, nat_nonneg, wrap_succ (show j < 4611686018427387904 by omega)]
      exact h)
    0 (Nat.zero_le _)

theorem szKeyS_some (l : List S23) (a : Int) (hl : l.length * 40 ≤ 140737488351232) (h0 : 0 ≤ a) (ha : a ≤ 1048576) : ∃ r, laws_szKeyS.f l a = some r ∧ (0 ≤ r → r = a - l.length ∧ (l.length : Int) ≤ a) := by
  unfold laws_szKeyS.f
  rw [wrap_id (by omega) (by omega)]
  split
  · exact ⟨_, rfl, fun h => absurd h (by decide)⟩
  · exact ⟨_, rfl, fun h => ⟨rfl, by omega⟩⟩

end Go.Proofs.Ytfnegjnklhfmaaa.Pure
namespace Go.Proofs.Ytfnegjnklhfmaaa.Pure
open Go.RowKit Go.Proofs.Ytfnegjnklhfmaaa.Q Go.Proofs.YtfnegjnklhfmaaaW.PrintWords Go.Proofs.YtfnegjnklhfmaaaW.PrintLast

/-- From a number on, the first one with which the keys keep the speed; d: how many are left. -/
def leastFrom (l : List S25) (most : Int) : Nat → Int → Int × Bool
  | 0, _ => (0, false)
  | d + 1, t => if (strB l t).2 = true then (if keepsB (strB l t).1 most = true then (t, true) else leastFrom l most d (t + 1)) else leastFrom l most d (t + 1)
theorem strB_good {l : List S25} {t : Int} (h : (strB l t).2 = true) : Good (strB l t).1 := by
  unfold strB at h ⊢
  split at h
  · rename_i hg
    rw [if_pos hg]
    exact (goodB_iff _).1 hg
  · cases h
theorem specLeast_ev (l : List S25) (most : Int) (hl : l.length ≤ 3518437208780) : ∀ (d : Nat) (t : Int), t + d = 21 → 1 ≤ t → Ev (fun k => spec_LeastStretch.l0 k l most t) (leastFrom l most d t) := by
  intro d
  induction d with
  | zero =>
    intro t h _
    refine Ev.succ ?_
    simp only [spec_LeastStretch.l0, show (t ≤ 20) = False from eq_false (by omega), if_false]
    exact Ev.now _
  | succ d ih =>
    intro t h h1
    refine Ev.succ ?_
    simp only [spec_LeastStretch.l0, show (t ≤ 20) = True from eq_true (by omega), if_true, leastFrom, wrap_id (x := t + 1) (by omega) (by omega)]
    refine Ev.bind (avStretch_ev l t hl) ?_
    rcases Bool.eq_false_or_eq_true (strB l t).2 with hs | hs
    · simp only [hs, if_true]
      refine Ev.bind (avKeeps_ev (strB_good hs) most) ?_
      rcases Bool.eq_false_or_eq_true (keepsB (strB l t).1 most) with hk | hk
      · simp only [hk, if_true]
        exact Ev.now _
      · simp only [hk]
        exact ih (t + 1) (by omega) (by omega)
    · simp only [hs]
      exact ih (t + 1) (by omega) (by omega)
theorem implLeast_ev (l : List S25) (most : Int) (hl : l.length ≤ 3518437208780) (hg : goodB l = true) (hm : 0 ≤ most) : ∀ (d : Nat) (t : Int), t + d = 21 → 1 ≤ t → Ev (fun k => impl_LeastStretch.l0 k l most t) (leastFrom l most d t) := by
  intro d
  induction d with
  | zero =>
    intro t h _
    refine Ev.succ ?_
    simp only [impl_LeastStretch.l0, show (t ≤ 20) = False from eq_false (by omega), if_false]
    exact Ev.now _
  | succ d ih =>
    intro t h h1
    refine Ev.succ ?_
    have hR : strR l t = strB l t := by
      unfold strR
      rw [hg, show inB t 1 20 = true from decide_eq_true (by omega)]
      rfl
    simp only [impl_LeastStretch.l0, show (t ≤ 20) = True from eq_true (by omega), if_true, leastFrom, wrap_id (x := t + 1) (by omega) (by omega)]
    refine Ev.bind (Ev.eq (implStretch_ev l t hl) hR) ?_
    rcases Bool.eq_false_or_eq_true (strB l t).2 with hs | hs
    · simp only [hs, if_true]
      refine Ev.bind (keepsSpeed_ev (strB_good hs) most hm) ?_
      rcases Bool.eq_false_or_eq_true (keepsB (strB l t).1 most) with hk | hk
      · simp only [hk, if_true]
        exact Ev.now _
      · simp only [hk]
        exact ih (t + 1) (by omega) (by omega)
    · simp only [hs]
      exact ih (t + 1) (by omega) (by omega)
def leastR (l : List S25) (most : Int) : Int × Bool := if goodB l && inB most 1 360 then leastFrom l most 20 1 else (0, false)
theorem specLeastStretch_ev (l : List S25) (most : Int) (hl : l.length ≤ 3518437208780) : Ev (fun k => spec_LeastStretch.f k l most) (leastR l most) := by
  unfold spec_LeastStretch.f spec_avMost.f leastR
  refine Ev.bind (avGood_ev l (by omega)) ?_
  rcases Bool.eq_false_or_eq_true (goodB l) with hg | hg
  · simp only [hg, if_true, l1In_eq, Option.bind_some]
    refine Ev.succ ?_
    rcases Bool.eq_false_or_eq_true (inB most 1 360) with hm | hm
    · simp only [spec_LeastStretch.j0, hm]
      exact specLeast_ev l most hl 20 1 (by decide) (by decide)
    · simp only [spec_LeastStretch.j0, hm]
      exact Ev.now _
  · simp only [hg]
    refine Ev.succ ?_
    simp only [spec_LeastStretch.j0]
    exact Ev.now _
theorem implLeastStretch_ev (l : List S25) (most : Int) (hl : l.length ≤ 3518437208780) : Ev (fun k => impl_LeastStretch.f k l most) (leastR l most) := by
  unfold impl_LeastStretch.f leastR
  refine Ev.bind (areKeys_ev l (by omega)) ?_
  rcases Bool.eq_false_or_eq_true (goodB l) with hg | hg
  · simp only [hg, if_true, within_eq, Option.bind_some]
    refine Ev.succ ?_
    rcases Bool.eq_false_or_eq_true (inB most 1 360) with hm | hm
    · have hm' : 1 ≤ most ∧ most ≤ 360 := of_decide_eq_true hm
      simp only [impl_LeastStretch.j0, hm]
      exact implLeast_ev l most hl hg (by omega) 20 1 (by decide) (by decide)
    · simp only [impl_LeastStretch.j0, hm]
      exact Ev.now _
  · simp only [hg]
    refine Ev.succ ?_
    simp only [impl_LeastStretch.j0]
    exact Ev.now _

theorem FnExactLeastStretch : laws_FnExactLeastStretch.Pure := by
  intro l most h _ _
  obtain ⟨r, hr, _⟩ := szKeyS_some l 1048576 h (by decide) (by decide)
  refine Ev.rounds ?_
  unfold laws_FnExactLeastStretch.f
  simp only [hr, Option.bind_some]
  by_cases h0 : r < 0
  · simp only [eq_true h0, if_true]
    exact Ev.now _
  simp only [eq_false h0, if_false]
  have hm : (l.map kconv).length ≤ 3518437208780 := by rw [List.length_map]; omega
  refine Ev.bind (toKeyS_ev l h) ?_
  refine Ev.bind (specLeastStretch_ev _ most hm) ?_
  refine Ev.bind (toKeyS_ev l h) ?_
  refine Ev.bind (implLeastStretch_ev _ most hm) ?_
  simp only [bne_self_eq_false, if_true]
  refine Ev.succ ?_
  simp only [laws_FnExactLeastStretch.j0]
  refine Ev.bind (toKeyS_ev l h) ?_
  refine Ev.bind (eqKeyS_ev _ (by omega)) ?_
  exact Ev.now _
end Go.Proofs.Ytfnegjnklhfmaaa.Pure
