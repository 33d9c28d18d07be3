/- Plain lemmas on keys: when a list are keys, and the speeds of its parts; program and reference alike. -/
import Derived.Test.YtfnegjnklhfmaaaQImplAreKeys
import Derived.Test.YtfnegjnklhfmaaaQSpecAvGood
import Derived.Test.YtfnegjnklhfmaaaKEv
import Derived.Test.YtfnegjnklhfmaaaKBase
import Derived.Test.YtfnegjnklhfmaaaQ0
import Derived.Lib.Slices
set_option linter.unusedVariables false
set_option linter.unusedSimpArgs false
namespace Go.Proofs.Ytfnegjnklhfmaaa.Pure
open Go.RowKit Go.Proofs.Ytfnegjnklhfmaaa.Q Go.Proofs.YtfnegjnklhfmaaaW.PrintWords Go.Proofs.YtfnegjnklhfmaaaW.PrintLast

theorem rdK (l : List S25) (j : Nat) : rd_T25 l (j : Int) = l.getD j z25 := by simp [rd_T25]
def kat (l : List S25) (j : Nat) : S25 := l.getD j z25
theorem rdk (l : List S25) (j : Nat) : rd_T25 l (j : Int) = kat l j := rdK l j
def kOk (x : S25) : Bool := keyB x.f0 x.f1 x.f2 x.f3 x.f4
def okAt (l : List S25) (i : Nat) : Bool := kOk (kat l i) && (decide (i = 0) || decide ((kat l (i - 1)).f0 < (kat l i).f0))
def goodB (l : List S25) : Bool := if (List.range l.length).all (okAt l) then decide (l.length ≤ 15) else false

theorem avGood_ev (l : List S25) (hl : l.length < 4611686018427387904) : Ev (fun k => spec_avGood.f k l) (goodB l) := by
  unfold spec_avGood.f goodB
  refine Ev.all0 (L := fun k j => spec_avGood.l0 k l l (l.length : Int) (j : Int)) (P := okAt l) (n := l.length) ?_ ?_ ?_
  · refine Ev.succ ?_
    simp only [spec_avGood.l0, Int.lt_irrefl, if_false]
    refine Ev.eq (Ev.now _) ?_
    rw [decide_eq_decide]
    omega
  · intro j r hj hP h
    refine Ev.succ ?_
    have h1 : ((j : Int) < (l.length : Int)) = True := eq_true (by omega)
    simp only [okAt, Bool.and_eq_true, Bool.or_eq_true, decide_eq_true_eq, kOk] at hP
    simp only [spec_avGood.l0, avOne_eq, Option.bind_some, h1, if_true, nat_nonneg, rdk, wrap_succ (show j < 4611686018427387904 by omega), hP.1]
    by_cases h0 : j = 0
    · subst h0
      exact h
    · have h2 : ((j : Int) > 0) = True := eq_true (by omega)
      have h3 : (((j - 1 : Nat) : Int) < (l.length : Int)) = True := eq_true (by omega)
      have h4 : ((kat l (j - 1)).f0 ≥ (kat l j).f0) = False := eq_false (by have := hP.2.resolve_left h0; omega)
      simp only [h2, if_true, wrap_pred (show 0 < j by omega) (show j < 4611686018427387904 by omega), nat_nonneg, h3, rdk, h4, if_false]
      exact h
  · intro j hj hP
    refine Ev.succ ?_
    have h1 : ((j : Int) < (l.length : Int)) = True := eq_true (by omega)
    simp only [okAt, kOk] at hP
    simp only [spec_avGood.l0, avOne_eq, Option.bind_some, h1, if_true, nat_nonneg, rdk, wrap_succ (show j < 4611686018427387904 by omega)]
    rcases Bool.eq_false_or_eq_true (keyB (kat l j).f0 (kat l j).f1 (kat l j).f2 (kat l j).f3 (kat l j).f4) with hk | hk
    · simp only [hk, if_true]
      simp only [hk, Bool.true_and, Bool.or_eq_false_iff, decide_eq_false_iff_not] at hP
      have h2 : ((j : Int) > 0) = True := eq_true (by omega)
      have h3 : (((j - 1 : Nat) : Int) < (l.length : Int)) = True := eq_true (by omega)
      have h4 : ((kat l (j - 1)).f0 ≥ (kat l j).f0) = True := eq_true (by omega)
      simp only [h2, if_true, wrap_pred (show 0 < j by omega) (show j < 4611686018427387904 by omega), nat_nonneg, h3, rdk, h4]
      exact Ev.now _
    · simp only [hk]
      exact Ev.now _
theorem areKeys_ev (l : List S25) (hl : l.length < 4611686018427387904) : Ev (fun k => impl_AreKeys.f k l) (goodB l) := by
  unfold impl_AreKeys.f goodB
  refine Ev.all0 (L := fun k j => impl_AreKeys.l0 k l l (l.length : Int) (j : Int)) (P := okAt l) (n := l.length) ?_ ?_ ?_
  · refine Ev.succ ?_
    simp only [impl_AreKeys.l0, Int.lt_irrefl, if_false]
    refine Ev.eq (Ev.now _) ?_
    rw [decide_eq_decide]
    omega
  · intro j r hj hP h
    refine Ev.succ ?_
    have h1 : ((j : Int) < (l.length : Int)) = True := eq_true (by omega)
    simp only [okAt, Bool.and_eq_true, Bool.or_eq_true, decide_eq_true_eq, kOk] at hP
    simp only [impl_AreKeys.l0, isKey_eq, Option.bind_some, h1, if_true, nat_nonneg, rdk, wrap_succ (show j < 4611686018427387904 by omega), hP.1]
    by_cases h0 : j = 0
    · subst h0
      exact h
    · have h2 : ((j : Int) > 0) = True := eq_true (by omega)
      have h3 : (((j - 1 : Nat) : Int) < (l.length : Int)) = True := eq_true (by omega)
      have h4 : ((kat l j).f0 ≤ (kat l (j - 1)).f0) = False := eq_false (by have := hP.2.resolve_left h0; omega)
      simp only [h2, if_true, wrap_pred (show 0 < j by omega) (show j < 4611686018427387904 by omega), nat_nonneg, h3, rdk, h4, if_false]
      exact h
  · intro j hj hP
    refine Ev.succ ?_
    have h1 : ((j : Int) < (l.length : Int)) = True := eq_true (by omega)
    simp only [okAt, kOk] at hP
    simp only [impl_AreKeys.l0, isKey_eq, Option.bind_some, h1, if_true, nat_nonneg, rdk, wrap_succ (show j < 4611686018427387904 by omega)]
    rcases Bool.eq_false_or_eq_true (keyB (kat l j).f0 (kat l j).f1 (kat l j).f2 (kat l j).f3 (kat l j).f4) with hk | hk
    · simp only [hk, if_true]
      simp only [hk, Bool.true_and, Bool.or_eq_false_iff, decide_eq_false_iff_not] at hP
      have h2 : ((j : Int) > 0) = True := eq_true (by omega)
      have h3 : (((j - 1 : Nat) : Int) < (l.length : Int)) = True := eq_true (by omega)
      have h4 : ((kat l j).f0 ≤ (kat l (j - 1)).f0) = True := eq_true (by omega)
      simp only [h2, if_true, wrap_pred (show 0 < j by omega) (show j < 4611686018427387904 by omega), nat_nonneg, h3, rdk, h4]
      exact Ev.now _
    · simp only [hk]
      exact Ev.now _

/-- What good keys are. -/
structure Good (l : List S25) : Prop where
  len : l.length ≤ 15
  key : ∀ i, i < l.length → (0 ≤ (kat l i).f0 ∧ (kat l i).f0 ≤ 9999) ∧ (-90 ≤ (kat l i).f1 ∧ (kat l i).f1 ≤ 180) ∧ (0 ≤ (kat l i).f2 ∧ (kat l i).f2 ≤ 150) ∧ (-70 ≤ (kat l i).f3 ∧ (kat l i).f3 ≤ 70) ∧ (0 ≤ (kat l i).f4 ∧ (kat l i).f4 ≤ 90)
  inc : ∀ i, i + 1 < l.length → (kat l i).f0 < (kat l (i + 1)).f0
theorem kOk_iff (x : S25) : kOk x = true ↔ (0 ≤ x.f0 ∧ x.f0 ≤ 9999) ∧ (-90 ≤ x.f1 ∧ x.f1 ≤ 180) ∧ (0 ≤ x.f2 ∧ x.f2 ≤ 150) ∧ (-70 ≤ x.f3 ∧ x.f3 ≤ 70) ∧ (0 ≤ x.f4 ∧ x.f4 ≤ 90) := by
  simp [kOk, keyB, inB]
theorem goodB_iff (l : List S25) : goodB l = true ↔ Good l := by
  unfold goodB
  constructor
  · intro h
    split at h
    · rename_i ha
      have ha' : ∀ i, i < l.length → okAt l i = true := fun i hi => List.all_eq_true.1 ha i (List.mem_range.2 hi)
      refine ⟨of_decide_eq_true h, fun i hi => ?_, fun i hi => ?_⟩
      · have := ha' i hi
        simp only [okAt, Bool.and_eq_true] at this
        exact (kOk_iff _).1 this.1
      · have := ha' (i + 1) hi
        simp only [okAt, Bool.and_eq_true, Bool.or_eq_true, decide_eq_true_eq] at this
        have h2 := this.2.resolve_left (by omega)
        simpa using h2
    · cases h
  · intro h
    rw [if_pos ?_]
    · exact decide_eq_true h.len
    · refine List.all_eq_true.2 fun i hi => ?_
      have hi := List.mem_range.1 hi
      simp only [okAt, Bool.and_eq_true, Bool.or_eq_true, decide_eq_true_eq]
      refine ⟨(kOk_iff _).2 (h.key i hi), ?_⟩
      by_cases h0 : i = 0
      · exact .inl h0
      · refine .inr ?_
        have := h.inc (i - 1) (by omega)
        rwa [show i - 1 + 1 = i by omega] at this
theorem goodB_false {l : List S25} (h : ¬ Good l) : goodB l = false := by
  rcases Bool.eq_false_or_eq_true (goodB l) with h1 | h1
  · exact absurd ((goodB_iff l).1 h1) h
  · exact h1
end Go.Proofs.Ytfnegjnklhfmaaa.Pure
