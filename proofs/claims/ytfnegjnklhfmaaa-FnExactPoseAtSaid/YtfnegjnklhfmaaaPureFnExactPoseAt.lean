/- For every list of keys and every frame, the program's PoseAt returns what the reference's PoseAt returns, and leaves the list alone. No condition. -/
import Derived.Test.YtfnegjnklhfmaaaQImplAreKeys
import Derived.Test.YtfnegjnklhfmaaaQImplBetween
import Derived.Test.YtfnegjnklhfmaaaQImplIsKey
import Derived.Test.YtfnegjnklhfmaaaQImplPoseAt
import Derived.Test.YtfnegjnklhfmaaaQImplWithin
import Derived.Test.YtfnegjnklhfmaaaQLawsEqKey
import Derived.Test.YtfnegjnklhfmaaaQLawsEqKeyS
import Derived.Test.YtfnegjnklhfmaaaQLawsFnExactPoseAt
import Derived.Test.YtfnegjnklhfmaaaQLawsSzKeyS
import Derived.Test.YtfnegjnklhfmaaaQLawsToKey
import Derived.Test.YtfnegjnklhfmaaaQLawsToKeyS
import Derived.Test.YtfnegjnklhfmaaaQSpecAvBetween
import Derived.Test.YtfnegjnklhfmaaaQSpecAvDown
import Derived.Test.YtfnegjnklhfmaaaQSpecAvFrame
import Derived.Test.YtfnegjnklhfmaaaQSpecAvGood
import Derived.Test.YtfnegjnklhfmaaaQSpecAvOne
import Derived.Test.YtfnegjnklhfmaaaQSpecL1In
import Derived.Test.YtfnegjnklhfmaaaQSpecPoseAt
import Derived.Test.YtfnegjnklhfmaaaQ0
import Derived.Test.YtfnegjnklhfmaaaWWords
import Derived.Lib.Slices
set_option linter.unusedVariables false
set_option linter.unusedSimpArgs false
namespace Go.Proofs.Ytfnegjnklhfmaaa.Pure
open Go.RowKit Go.Proofs.Ytfnegjnklhfmaaa.Q Go.Proofs.YtfnegjnklhfmaaaW.PrintLast Go.Proofs.YtfnegjnklhfmaaaW.PrintWords
theorem Ev.succ {α : Type} {g : Nat → Option α} {r : α} (h : Ev (fun k => g (k + 1)) r) : Ev g r := Ev.step (fun _ => rfl) h
theorem Ev.k {α : Type} {g : Nat → Option α} {o : Option α} {r : α} (hg : ∀ k, g k = o) (h : o = some r) : Ev g r := ⟨0, fun k _ => (hg k).trans h⟩
theorem Ev.eq {α : Type} {g : Nat → Option α} {r r' : α} (h : Ev g r) (e : r = r') : Ev g r' := e ▸ h
/-- From round i up to round n. -/
theorem Ev.upto {β : Type} {L : Nat → Nat → Option β} {r : β} {n : Nat} (hend : Ev (fun k => L k n) r)
    (hstep : ∀ j, j < n → Ev (fun k => L k (j + 1)) r → Ev (fun k => L k j) r) : ∀ i, i ≤ n → Ev (fun k => L k i) r := by
  intro i hi
  obtain ⟨d, hd⟩ : ∃ d, n = i + d := ⟨n - i, by omega⟩
  induction d generalizing i with
  | zero => simp at hd; subst hd; exact hend
  | succ d ih => exact hstep i (by omega) (ih (i + 1) (by omega) (by omega))
/-- A loop that ends early where P fails. -/
theorem Ev.all {β : Type} {L : Nat → Nat → Option β} {P : Nat → Bool} {n : Nat} {a b : β} (hend : Ev (fun k => L k n) a)
    (hyes : ∀ j r, j < n → P j = true → Ev (fun k => L k (j + 1)) r → Ev (fun k => L k j) r) (hno : ∀ j, j < n → P j = false → Ev (fun k => L k j) b) :
    ∀ i, i ≤ n → Ev (fun k => L k i) (if (List.range' i (n - i)).all P then a else b) := by
  intro i hi
  obtain ⟨d, hd⟩ : ∃ d, n = i + d := ⟨n - i, by omega⟩
  induction d generalizing i with
  | zero => simp at hd; subst hd; simpa using hend
  | succ d ih =>
    have h1 : n - i = (n - (i + 1)) + 1 := by omega
    rw [h1, List.range'_succ]
    simp only [List.all_cons]
    rcases Bool.eq_false_or_eq_true (P i) with hP | hP
    · simp only [hP, Bool.true_and]
      exact hyes i _ (by omega) hP (ih (i + 1) (by omega) (by omega))
    · simpa [hP] using hno i (by omega) hP
theorem Ev.all0 {β : Type} {L : Nat → Nat → Option β} {P : Nat → Bool} {n : Nat} {a b : β} (hend : Ev (fun k => L k n) a)
    (hyes : ∀ j r, j < n → P j = true → Ev (fun k => L k (j + 1)) r → Ev (fun k => L k j) r) (hno : ∀ j, j < n → P j = false → Ev (fun k => L k j) b) :
    Ev (fun k => L k 0) (if (List.range n).all P then a else b) := by
  have := Ev.all hend hyes hno 0 (Nat.zero_le _)
  rwa [Nat.sub_zero, ← List.range_eq_range'] at this

theorem wrap_id {x : Int} (h0 : -9223372036854775808 ≤ x) (h1 : x ≤ 9223372036854775807) : wrap64 x = x := by
  unfold wrap64
  omega
theorem wrap_succ {n : Nat} (h : n < 4611686018427387904) : wrap64 ((n : Int) + 1) = ((n + 1 : Nat) : Int) := by
  rw [wrap_id (by omega) (by omega)]
  omega
theorem wrap_pred {n : Nat} (h0 : 0 < n) (h : n < 4611686018427387904) : wrap64 ((n : Int) - 1) = ((n - 1 : Nat) : Int) := by
  rw [wrap_id (by omega) (by omega)]
  omega
theorem nat_nonneg (n : Nat) : (0 ≤ (n : Int)) = True := eq_true (Int.natCast_nonneg n)
def inB (a b c : Int) : Bool := decide (b ≤ a ∧ a ≤ c)
theorem l1In_eq (a b c : Int) : spec_l1In.f a b c = some (inB a b c) := by
  unfold spec_l1In.f inB
  split <;> simp <;> omega
theorem within_eq (a b c : Int) : impl_within.f a b c = some (inB a b c) := by
  unfold impl_within.f inB
  split <;> simp <;> omega
def keyB (a b c d e : Int) : Bool := inB a 0 9999 && (inB b (-90) 180 && (inB c 0 150 && (inB d (-70) 70 && inB e 0 90)))
theorem isKey_eq (a b c d e : Int) : impl_IsKey.f a b c d e = some (keyB a b c d e) := by
  unfold impl_IsKey.f keyB
  simp only [within_eq, Option.bind_some]
  cases inB a 0 9999 <;> cases inB b (-90) 180 <;> cases inB c 0 150 <;> cases inB d (-70) 70 <;> simp
theorem avOne_eq (a b c d e : Int) : spec_avOne.f a b c d e = some (keyB a b c d e) := by
  unfold spec_avOne.f spec_avFrame.f keyB
  simp only [l1In_eq, Option.bind_some]
  cases inB a 0 9999 <;> cases inB b (-90) 180 <;> cases inB c 0 150 <;> cases inB d (-70) 70 <;> simp
theorem rdK (l : List S25) (j : Nat) : rd_T25 l (j : Int) = l.getD j z25 := by simp [rd_T25]
def kat (l : List S25) (j : Nat) : S25 := l.getD j z25
theorem rdk (l : List S25) (j : Nat) : rd_T25 l (j : Int) = kat l j := rdK l j
def kOk (x : S25) : Bool := keyB x.f0 x.f1 x.f2 x.f3 x.f4
def okAt (l : List S25) (i : Nat) : Bool := kOk (kat l i) && (decide (i = 0) || decide ((kat l (i - 1)).f0 < (kat l i).f0))
def goodB (l : List S25) : Bool := if (List.range l.length).all (okAt l) then decide (l.length ≤ 15) else false

theorem avGood_ev (l : List S25) (hl : l.length < 4611686018427387904) : Ev (fun k => spec_avGood.f k l) (goodB l) := by
  unfold spec_avGood.f goodB
  refine Ev.all0 (L := fun k j => spec_avGood.l0 k l l (l.length : Int) (j : Int)) (P := okAt l) (n := l.length) ?_ ?_ ?_
  · refine Ev.succ ?_
    simp only [spec_avGood.l0, Int.lt_irrefl, if_false]
    refine Ev.eq (Ev.now _) ?_
    rw [decide_eq_decide]
    omega
  · intro j r hj hP h
    refine Ev.succ ?_
    have h1 : ((j : Int) < (l.length : Int)) = True := eq_true (by omega)
    simp only [okAt, Bool.and_eq_true, Bool.or_eq_true, decide_eq_true_eq, kOk] at hP
    simp only [spec_avGood.l0, avOne_eq, Option.bind_some, h1, if_true, nat_nonneg, rdk, wrap_succ (show j < 4611686018427387904 by omega), hP.1]
    by_cases h0 : j = 0
    · subst h0
      exact h
    · have h2 : ((j : Int) > 0) = True := eq_true (by omega)
      have h3 : (((j - 1 : Nat) : Int) < (l.length : Int)) = True := eq_true (by omega)
      have h4 : ((kat l (j - 1)).f0 ≥ (kat l j).f0) = False := eq_false (by have := hP.2.resolve_left h0; omega)
      simp only [h2, if_true, wrap_pred (show 0 < j by omega) (show j < 4611686018427387904 by omega), nat_nonneg, h3, rdk, h4, if_false]
      exact h
  · intro j hj hP
    refine Ev.succ ?_
    have h1 : ((j : Int) < (l.length : Int)) = True := eq_true (by omega)
    simp only [okAt, kOk] at hP
    simp only [spec_avGood.l0, avOne_eq, Option.bind_some, h1, if_true, nat_nonneg, rdk, wrap_succ (show j < 4611686018427387904 by omega)]
    rcases Bool.eq_false_or_eq_true (keyB (kat l j).f0 (kat l j).f1 (kat l j).f2 (kat l j).f3 (kat l j).f4) with hk | hk
    · simp only [hk, if_true]
      simp only [hk, Bool.true_and, Bool.or_eq_false_iff, decide_eq_false_iff_not] at hP
      have h2 : ((j : Int) > 0) = True := eq_true (by omega)
      have h3 : (((j - 1 : Nat) : Int) < (l.length : Int)) = True := eq_true (by omega)
      have h4 : ((kat l (j - 1)).f0 ≥ (kat l j).f0) = True := eq_true (by omega)
      simp only [h2, if_true, wrap_pred (show 0 < j by omega) (show j < 4611686018427387904 by omega), nat_nonneg, h3, rdk, h4]
      exact Ev.now _
    · simp only [hk]
      exact Ev.now _
theorem areKeys_ev (l : List S25) (hl : l.length < 4611686018427387904) : Ev (fun k => impl_AreKeys.f k l) (goodB l) := by
  unfold impl_AreKeys.f goodB
  refine Ev.all0 (L := fun k j => impl_AreKeys.l0 k l l (l.length : Int) (j : Int)) (P := okAt l) (n := l.length) ?_ ?_ ?_
  · refine Ev.succ ?_
    simp only [impl_AreKeys.l0, Int.lt_irrefl, if_false]
    refine Ev.eq (Ev.now _) ?_
    rw [decide_eq_decide]
    omega
  · intro j r hj hP h
    refine Ev.succ ?_
    have h1 : ((j : Int) < (l.length : Int)) = True := eq_true (by omega)
    simp only [okAt, Bool.and_eq_true, Bool.or_eq_true, decide_eq_true_eq, kOk] at hP
    simp only [impl_AreKeys.l0, isKey_eq, Option.bind_some, h1, if_true, nat_nonneg, rdk, wrap_succ (show j < 4611686018427387904 by omega), hP.1]
    by_cases h0 : j = 0
    · subst h0
      exact h
    · have h2 : ((j : Int) > 0) = True := eq_true (by omega)
      have h3 : (((j - 1 : Nat) : Int) < (l.length : Int)) = True := eq_true (by omega)
      have h4 : ((kat l j).f0 ≤ (kat l (j - 1)).f0) = False := eq_false (by have := hP.2.resolve_left h0; omega)
      simp only [h2, if_true, wrap_pred (show 0 < j by omega) (show j < 4611686018427387904 by omega), nat_nonneg, h3, rdk, h4, if_false]
      exact h
  · intro j hj hP
    refine Ev.succ ?_
    have h1 : ((j : Int) < (l.length : Int)) = True := eq_true (by omega)
    simp only [okAt, kOk] at hP
    simp only [impl_AreKeys.l0, isKey_eq, Option.bind_some, h1, if_true, nat_nonneg, rdk, wrap_succ (show j < 4611686018427387904 by omega)]
    rcases Bool.eq_false_or_eq_true (keyB (kat l j).f0 (kat l j).f1 (kat l j).f2 (kat l j).f3 (kat l j).f4) with hk | hk
    · simp only [hk, if_true]
      simp only [hk, Bool.true_and, Bool.or_eq_false_iff, decide_eq_false_iff_not] at hP
      have h2 : ((j : Int) > 0) = True := eq_true (by omega)
      have h3 : (((j - 1 : Nat) : Int) < (l.length : Int)) = True := eq_true (by omega)
      have h4 : ((kat l j).f0 ≤ (kat l (j - 1)).f0) = True := eq_true (by omega)
      simp only [h2, if_true, wrap_pred (show 0 < j by omega) (show j < 4611686018427387904 by omega), nat_nonneg, h3, rdk, h4]
      exact Ev.now _
    · simp only [hk]
      exact Ev.now _

/-- What good keys are. -/
structure Good (l : List S25) : Prop where
  len : l.length ≤ 15
  key : ∀ i, i < l.length → (0 ≤ (kat l i).f0 ∧ (kat l i).f0 ≤ 9999) ∧ (-90 ≤ (kat l i).f1 ∧ (kat l i).f1 ≤ 180) ∧ (0 ≤ (kat l i).f2 ∧ (kat l i).f2 ≤ 150) ∧ (-70 ≤ (kat l i).f3 ∧ (kat l i).f3 ≤ 70) ∧ (0 ≤ (kat l i).f4 ∧ (kat l i).f4 ≤ 90)
  inc : ∀ i, i + 1 < l.length → (kat l i).f0 < (kat l (i + 1)).f0
theorem kOk_iff (x : S25) : kOk x = true ↔ (0 ≤ x.f0 ∧ x.f0 ≤ 9999) ∧ (-90 ≤ x.f1 ∧ x.f1 ≤ 180) ∧ (0 ≤ x.f2 ∧ x.f2 ≤ 150) ∧ (-70 ≤ x.f3 ∧ x.f3 ≤ 70) ∧ (0 ≤ x.f4 ∧ x.f4 ≤ 90) := by
  simp [kOk, keyB, inB]
theorem goodB_iff (l : List S25) : goodB l = true ↔ Good l := by
  unfold goodB
  constructor
  · intro h
    split at h
    · rename_i ha
      have ha' : ∀ i, i < l.length → okAt l i = true := fun i hi => List.all_eq_true.1 ha i (List.mem_range.2 hi)
      refine ⟨of_decide_eq_true h, fun i hi => ?_, fun i hi => ?_⟩
      · have := ha' i hi
        simp only [okAt, Bool.and_eq_true] at this
        exact (kOk_iff _).1 this.1
      · have := ha' (i + 1) hi
        simp only [okAt, Bool.and_eq_true, Bool.or_eq_true, decide_eq_true_eq] at this
        have h2 := this.2.resolve_left (by omega)
        simpa using h2
    · cases h
  · intro h
    rw [if_pos ?_]
    · exact decide_eq_true h.len
    · refine List.all_eq_true.2 fun i hi => ?_
      have hi := List.mem_range.1 hi
      simp only [okAt, Bool.and_eq_true, Bool.or_eq_true, decide_eq_true_eq]
      refine ⟨(kOk_iff _).2 (h.key i hi), ?_⟩
      by_cases h0 : i = 0
      · exact .inl h0
      · refine .inr ?_
        have := h.inc (i - 1) (by omega)
        rwa [show i - 1 + 1 = i by omega] at this
def kconv (x : S23) : S25 := ⟨x.f0, x.f1, x.f2, x.f3, x.f4⟩
theorem rdKeyL (l : List S23) (j : Nat) : rd_T23 l (j : Int) = l.getD j z23 := by simp [rd_T23]

theorem toKeyS_ev (l : List S23) (hl : l.length * 40 ≤ 140737488351232) : Ev (fun k => laws_toKeyS.f k l) (l.map kconv) := by
  unfold laws_toKeyS.f
  simp only [nat_nonneg, if_true, Int.toNat_natCast, show (l.length ≤ 7036874417766) = True from eq_true (by omega)]
  have key := Ev.upto (L := fun k j => laws_toKeyS.l0 k l ((l.map kconv).take j ++ List.replicate (l.length - j) z25) (j : Int)) (r := l.map kconv) (n := l.length)
    (by
      refine Ev.succ ?_
      simp only [laws_toKeyS.l0, Int.lt_irrefl, if_false]
      simp only [Nat.sub_self, List.replicate_zero, List.append_nil]
      rw [List.take_of_length_le (by simp)]
      exact Ev.now _)
    (by
      intro j hj h
      refine Ev.succ ?_
      have h1 : ((j : Int) < (l.length : Int)) = True := eq_true (by omega)
      have hlen : ((l.map kconv).take j ++ List.replicate (l.length - j) z25).length = l.length := by simp; omega
      simp only [laws_toKeyS.l0, laws_toKey.f, Option.bind_some, h1, if_true, nat_nonneg, hlen, Int.toNat_natCast, wrap_succ (show j < 4611686018427387904 by omega), rdKeyL]
      have e : ((l.map kconv).take j ++ List.replicate (l.length - j) z25).set j (kconv (l.getD j z23)) = (l.map kconv).take (j + 1) ++ List.replicate (l.length - (j + 1)) z25 := by
        have e1 : l.length - j = (l.length - (j + 1)) + 1 := by omega
        rw [e1, List.replicate_succ, List.set_append_right _ _ (by simp; omega)]
        have e2 : j - ((l.map kconv).take j).length = 0 := by simp; omega
        rw [e2, List.set_cons_zero, List.take_succ_eq_append_getElem (by simpa using hj)]
        simp [List.getD_eq_getElem?_getD, List.getElem?_eq_getElem hj]
      have e3 : (⟨(l.getD j z23).f0, (l.getD j z23).f1, (l.getD j z23).f2, (l.getD j z23).f3, (l.getD j z23).f4⟩ : S25) = kconv (l.getD j z23) := rfl
      rw [e3, e]
      exact h)
    0 (Nat.zero_le _)
  simpa using key

theorem eqKeyS_ev (l : List S25) (hl : l.length < 4611686018427387904) : Ev (fun k => laws_eqKeyS.f k l l) true := by
  unfold laws_eqKeyS.f
  simp only [if_true]
  exact Ev.upto (L := fun k j => laws_eqKeyS.l0 k l l (j : Int)) (r := true) (n := l.length)
    (by
      refine Ev.succ ?_
      simp only [laws_eqKeyS.l0, Int.lt_irrefl, if_false]
      exact Ev.now _)
    (by
      intro j hj h
      refine Ev.succ ?_
      have h1 : ((j : Int) < (l.length : Int)) = True := eq_true (by omega)
      simp only [laws_eqKeyS.l0, laws_eqKey.f, Option.bind_some, h1, if_true, nat_nonneg, wrap_succ (show j < 4611686018427387904 by omega)]
      exact h)
    0 (Nat.zero_le _)

theorem szKeyS_some (l : List S23) (a : Int) (hl : l.length * 40 ≤ 140737488351232) (h0 : 0 ≤ a) (ha : a ≤ 1048576) : ∃ r, laws_szKeyS.f l a = some r ∧ (0 ≤ r → r = a - l.length ∧ (l.length : Int) ≤ a) := by
  unfold laws_szKeyS.f
  rw [wrap_id (by omega) (by omega)]
  split
  · exact ⟨_, rfl, fun h => absurd h (by decide)⟩
  · exact ⟨_, rfl, fun h => ⟨rfl, by omega⟩⟩

end Go.Proofs.Ytfnegjnklhfmaaa.Pure
namespace Go.Proofs.Ytfnegjnklhfmaaa.Pure
open Go.RowKit Go.Proofs.Ytfnegjnklhfmaaa.Q Go.Proofs.YtfnegjnklhfmaaaW.PrintWords Go.Proofs.YtfnegjnklhfmaaaW.PrintLast

/-- Division downward by a number above 0. -/
def dnOf (c m : Int) : Int := if Int.tmod c m < 0 then Int.tdiv c m - 1 else Int.tdiv c m
theorem prod_small (d n : Int) (hd : -1000 ≤ d ∧ d ≤ 1000) (hn : -100000 ≤ n ∧ n ≤ 100000) : -100000000 ≤ d * n ∧ d * n ≤ 100000000 := by
  have h : (d * n).natAbs ≤ 1000 * 100000 := by
    rw [Int.natAbs_mul]
    exact Nat.mul_le_mul (by omega) (by omega)
  omega
theorem tdiv_small (c m : Int) : (Int.tdiv c m).natAbs ≤ c.natAbs := by
  rw [Int.natAbs_tdiv]
  exact Nat.div_le_self _ _
def btwOf (p q n m : Int) : Int := p + dnOf ((q - p) * n) m
theorem avBetween_eq (p q n m : Int) (hp : -400 ≤ p ∧ p ≤ 400) (hq : -400 ≤ q ∧ q ≤ 400) (hn : 0 ≤ n ∧ n ≤ 100000) (hm : 0 < m) : spec_avBetween.f p q n m = some (btwOf p q n m) := by
  have h1 := prod_small (q - p) n (by omega) (by omega)
  unfold spec_avBetween.f spec_avDown.f btwOf dnOf
  rw [wrap_id (x := q - p) (by omega) (by omega), wrap_id (x := (q - p) * n) (by omega) (by omega)]
  generalize (q - p) * n = c at *
  have h2 := tdiv_small c m
  have h3 : (m = 0) = False := eq_false (by omega)
  simp only [h3, if_false]
  rw [wrap_id (x := Int.tdiv c m) (by omega) (by omega), wrap_id (x := Int.tdiv c m - 1) (by omega) (by omega)]
  by_cases hc : c < 0
  · have h4 : Int.tmod c m ≤ 0 := by
      have h5 : Int.tmod c m = -(Int.tmod (-c) m) := by rw [Int.neg_tmod]; omega
      have h6 := Int.tmod_nonneg (a := -c) m (by omega)
      omega
    simp only [eq_true hc, if_true]
    by_cases hz : Int.tmod c m = 0
    · have h5 : (Int.tmod c m < 0) = False := eq_false (by omega)
      simp only [hz, h5, if_true, if_false, Option.bind_some, Int.lt_irrefl]
      rw [wrap_id (by omega) (by omega)]
    · have h5 : (Int.tmod c m < 0) = True := eq_true (by omega)
      simp only [eq_false hz, h5, if_true, if_false, Option.bind_some]
      rw [wrap_id (by omega) (by omega)]
  · have h6 := Int.tmod_nonneg (a := c) m (by omega)
    have h5 : (Int.tmod c m < 0) = False := eq_false (by omega)
    simp only [eq_false hc, h5, if_false, Option.bind_some]
    rw [wrap_id (by omega) (by omega)]
theorem even_eq (p q fr a b : Int) (hp : -400 ≤ p ∧ p ≤ 400) (hq : -400 ≤ q ∧ q ≤ 400) (ha : 0 ≤ a ∧ a ≤ fr) (hb : fr ≤ b ∧ b ≤ 9999) : impl_between.even p q fr a b = btwOf p q (fr - a) (b - a) := by
  have h1 := prod_small (q - p) (fr - a) (by omega) (by omega)
  unfold impl_between.even impl_between.div btwOf dnOf
  rw [wrap_id (x := q - p) (by omega) (by omega), wrap_id (x := fr - a) (by omega) (by omega), wrap_id (x := b - a) (by omega) (by omega), wrap_id (x := (q - p) * (fr - a)) (by omega) (by omega)]
  generalize (q - p) * (fr - a) = c at *
  have h2 := tdiv_small c (b - a)
  rw [wrap_id (x := Int.tdiv c (b - a)) (by omega) (by omega), wrap_id (x := Int.tdiv c (b - a) - 1) (by omega) (by omega)]
  split <;> rw [wrap_id (by omega) (by omega)]
def btwK (x y : S25) (a : Int) : Int × Int × Int × Int × Int × Bool := (a, btwOf x.f1 y.f1 (a - x.f0) (y.f0 - x.f0), btwOf x.f2 y.f2 (a - x.f0) (y.f0 - x.f0), btwOf x.f3 y.f3 (a - x.f0) (y.f0 - x.f0), btwOf x.f4 y.f4 (a - x.f0) (y.f0 - x.f0), true)
def poseS (l : List S25) (a : Int) : Nat → Nat → Int × Int × Int × Int × Int × Bool
  | 0, _ => (0, 0, 0, 0, 0, false)
  | d + 1, j => if (kat l j).f0 = a then ((kat l j).f0, (kat l j).f1, (kat l j).f2, (kat l j).f3, (kat l j).f4, true) else if j + 1 < l.length ∧ (kat l j).f0 < a ∧ a < (kat l (j + 1)).f0 then btwK (kat l j) (kat l (j + 1)) a else poseS l a d (j + 1)
theorem specPose_ev {l : List S25} (hG : Good l) (a : Int) (ha : 0 ≤ a ∧ a ≤ 9999) : ∀ d j, j + d = l.length → Ev (fun k => spec_PoseAt.l0 k l a l (l.length : Int) (j : Int)) (poseS l a d j) := by
  have hlen := hG.len
  intro d
  induction d with
  | zero =>
    intro j hj
    refine Ev.succ ?_
    have h1 : ((j : Int) < (l.length : Int)) = False := eq_false (by omega)
    simp only [spec_PoseAt.l0, h1, if_false, poseS]
    exact Ev.now _
  | succ d ih =>
    intro j hj
    have ih' := ih (j + 1) (by omega)
    refine Ev.succ ?_
    have h1 : ((j : Int) < (l.length : Int)) = True := eq_true (by omega)
    simp only [spec_PoseAt.l0, h1, if_true, nat_nonneg, rdk, wrap_succ (show j < 4611686018427387904 by omega), poseS]
    by_cases h2 : (kat l j).f0 = a
    · simp only [eq_true h2, if_true]
      exact Ev.now _
    · simp only [eq_false h2, if_false]
      by_cases h3 : j + 1 < l.length
      · have h3' : (((j + 1 : Nat) : Int) < (l.length : Int)) = True := eq_true (by omega)
        simp only [h3', if_true, eq_true h3, true_and]
        by_cases h4 : (kat l j).f0 < a
        · simp only [eq_true h4, if_true, true_and]
          refine Ev.succ ?_
          by_cases h5 : a < (kat l (j + 1)).f0
          · have hx := hG.key j (by omega)
            have hy := hG.key (j + 1) (by omega)
            simp only [spec_PoseAt.j2, eq_true h5, decide_true, if_true, wrap_succ (show j < 4611686018427387904 by omega), nat_nonneg, h3', rdk]
            rw [wrap_id (x := a - (kat l j).f0) (by omega) (by omega), wrap_id (x := (kat l (j + 1)).f0 - (kat l j).f0) (by omega) (by omega)]
            rw [avBetween_eq _ _ _ _ (by omega) (by omega) (by omega) (by omega), avBetween_eq _ _ _ _ (by omega) (by omega) (by omega) (by omega), avBetween_eq _ _ _ _ (by omega) (by omega) (by omega) (by omega), avBetween_eq _ _ _ _ (by omega) (by omega) (by omega) (by omega)]
            simp only [Option.bind_some]
            exact Ev.now _
          · simp only [spec_PoseAt.j2, eq_false h5, decide_false, if_false, wrap_succ (show j < 4611686018427387904 by omega), Bool.false_eq_true]
            exact ih'
        · simp only [eq_false h4, if_false, false_and]
          refine Ev.succ ?_
          simp only [spec_PoseAt.j2, if_false, wrap_succ (show j < 4611686018427387904 by omega), Bool.false_eq_true]
          exact ih'
      · have h3' : (((j + 1 : Nat) : Int) < (l.length : Int)) = False := eq_false (by omega)
        simp only [h3', if_false, eq_false h3, false_and]
        refine Ev.succ ?_
        simp only [spec_PoseAt.j2, if_false, wrap_succ (show j < 4611686018427387904 by omega), Bool.false_eq_true]
        exact ih'
theorem implPose_ev {l : List S25} (hG : Good l) (a : Int) : ∀ d j, j + d = l.length → (0 < j → (kat l (j - 1)).f0 ≠ a ∧ ¬ (j < l.length ∧ (kat l (j - 1)).f0 < a ∧ a < (kat l j).f0)) → Ev (fun k => impl_PoseAt.l0 k l a l (l.length : Int) (j : Int)) (poseS l a d j) := by
  have hlen := hG.len
  intro d
  induction d with
  | zero =>
    intro j hj _
    refine Ev.succ ?_
    have h1 : ((j : Int) < (l.length : Int)) = False := eq_false (by omega)
    simp only [impl_PoseAt.l0, h1, if_false, poseS]
    exact Ev.now _
  | succ d ih =>
    intro j hj hinv
    refine Ev.succ ?_
    have h1 : ((j : Int) < (l.length : Int)) = True := eq_true (by omega)
    simp only [impl_PoseAt.l0, h1, if_true, nat_nonneg, rdk, wrap_succ (show j < 4611686018427387904 by omega), poseS, within_eq, Option.bind_some]
    by_cases h2 : (kat l j).f0 = a
    · simp only [eq_true h2, if_true]
      exact Ev.now _
    · simp only [eq_false h2, if_false]
      have rest : Ev (fun k => impl_PoseAt.l0 k l a l (l.length : Int) ((j + 1 : Nat) : Int)) (if j + 1 < l.length ∧ (kat l j).f0 < a ∧ a < (kat l (j + 1)).f0 then btwK (kat l j) (kat l (j + 1)) a else poseS l a d (j + 1)) := by
        by_cases h3 : j + 1 < l.length ∧ (kat l j).f0 < a ∧ a < (kat l (j + 1)).f0
        · rw [if_pos h3]
          obtain ⟨h4, h5, h6⟩ := h3
          have hx := hG.key j (by omega)
          have hy := hG.key (j + 1) (by omega)
          refine Ev.succ ?_
          have g1 : (((j + 1 : Nat) : Int) < (l.length : Int)) = True := eq_true (by omega)
          have g2 : ((kat l (j + 1)).f0 = a) = False := eq_false (by omega)
          have g3 : (((j + 1 : Nat) : Int) > 0) = True := eq_true (by omega)
          have g4 : inB a (kat l j).f0 (kat l (j + 1)).f0 = true := by simp [inB]; omega
          have g5 : (wrap64 ((kat l (j + 1)).f0 - (kat l j).f0) = 0) = False := by rw [wrap_id (by omega) (by omega)]; exact eq_false (by omega)
          simp only [impl_PoseAt.l0, g1, g2, g3, if_true, if_false, nat_nonneg, rdk, wrap_pred (show 0 < j + 1 by omega) (show j + 1 < 4611686018427387904 by omega), Nat.add_sub_cancel, h1, within_eq, Option.bind_some, g4, impl_between.f, g5]
          rw [even_eq _ _ _ _ _ (by omega) (by omega) (by omega) (by omega), even_eq _ _ _ _ _ (by omega) (by omega) (by omega) (by omega), even_eq _ _ _ _ _ (by omega) (by omega) (by omega) (by omega), even_eq _ _ _ _ _ (by omega) (by omega) (by omega) (by omega)]
          exact Ev.now _
        · rw [if_neg h3]
          exact ih (j + 1) (by omega) (fun _ => ⟨by simpa using h2, by simpa using h3⟩)
      by_cases h0 : j = 0
      · subst h0
        have g3 : (((0 : Nat) : Int) > 0) = False := eq_false (by omega)
        simp only [g3, if_false]
        exact rest
      · have g3 : ((j : Int) > 0) = True := eq_true (by omega)
        have hi := hinv (by omega)
        have g4 : inB a (kat l (j - 1)).f0 (kat l j).f0 = false := by
          simp only [inB, decide_eq_false_iff_not]
          intro h
          exact hi.2 ⟨by omega, by omega, by omega⟩
        have g6 : (((j - 1 : Nat) : Int) < (l.length : Int)) = True := eq_true (by omega)
        simp only [g3, if_true, wrap_pred (show 0 < j by omega) (show j < 4611686018427387904 by omega), nat_nonneg, g6, rdk, g4]
        exact rest
theorem poseS_out {l : List S25} (hG : Good l) (a : Int) (ha : ¬ (0 ≤ a ∧ a ≤ 9999)) : ∀ d j, j + d = l.length → poseS l a d j = (0, 0, 0, 0, 0, false) := by
  intro d
  induction d with
  | zero => intro j _; rfl
  | succ d ih =>
    intro j hj
    have hx := hG.key j (by omega)
    rw [poseS, if_neg (by omega), ih (j + 1) (by omega), if_neg]
    rintro ⟨h1, h2, h3⟩
    have hy := hG.key (j + 1) h1
    omega
def poseR (l : List S25) (a : Int) : Int × Int × Int × Int × Int × Bool := if goodB l then poseS l a l.length 0 else (0, 0, 0, 0, 0, false)
theorem specPoseAt_ev (l : List S25) (a : Int) (hl : l.length < 4611686018427387904) : Ev (fun k => spec_PoseAt.f k l a) (poseR l a) := by
  unfold spec_PoseAt.f poseR
  refine Ev.bind (avGood_ev l hl) ?_
  rcases Bool.eq_false_or_eq_true (goodB l) with hg | hg
  · have hG := (goodB_iff l).1 hg
    simp only [hg, if_true, spec_avFrame.f, l1In_eq, Option.bind_some]
    refine Ev.succ ?_
    by_cases ha : 0 ≤ a ∧ a ≤ 9999
    · have h1 : inB a 0 9999 = true := decide_eq_true ha
      simp only [spec_PoseAt.j0, h1]
      exact specPose_ev hG a ha _ 0 (by omega)
    · have h1 : inB a 0 9999 = false := decide_eq_false ha
      simp only [spec_PoseAt.j0, h1]
      rw [poseS_out hG a ha _ 0 (by omega)]
      exact Ev.now _
  · simp only [hg]
    refine Ev.succ ?_
    simp only [spec_PoseAt.j0]
    exact Ev.now _
theorem implPoseAt_ev (l : List S25) (a : Int) (hl : l.length < 4611686018427387904) : Ev (fun k => impl_PoseAt.f k l a) (poseR l a) := by
  unfold impl_PoseAt.f poseR
  refine Ev.bind (areKeys_ev l hl) ?_
  rcases Bool.eq_false_or_eq_true (goodB l) with hg | hg
  · have hG := (goodB_iff l).1 hg
    simp only [hg, if_true]
    exact implPose_ev hG a _ 0 (by omega) (fun h => by omega)
  · simp only [hg]
    exact Ev.now _

theorem FnExactPoseAt : laws_FnExactPoseAt.Pure := by
  intro l a h _ _
  obtain ⟨r, hr, _⟩ := szKeyS_some l 1048576 h (by decide) (by decide)
  refine Ev.rounds ?_
  unfold laws_FnExactPoseAt.f
  simp only [hr, Option.bind_some]
  by_cases h0 : r < 0
  · simp only [eq_true h0, if_true]
    exact Ev.now _
  simp only [eq_false h0, if_false]
  have hm : (l.map kconv).length < 4611686018427387904 := by rw [List.length_map]; omega
  refine Ev.bind (toKeyS_ev l h) ?_
  refine Ev.bind (specPoseAt_ev _ a hm) ?_
  refine Ev.bind (toKeyS_ev l h) ?_
  refine Ev.bind (implPoseAt_ev _ a hm) ?_
  simp only [laws_eqKey.f, bne_self_eq_false, if_true, Option.bind_some]
  refine Ev.succ ?_
  simp only [laws_FnExactPoseAt.j0]
  refine Ev.bind (toKeyS_ev l h) ?_
  refine Ev.bind (eqKeyS_ev _ hm) ?_
  exact Ev.now _
end Go.Proofs.Ytfnegjnklhfmaaa.Pure
