/- For every question, the program's RightAnswer returns what the reference's RightAnswer returns, and leaves the question alone. No condition. -/
import Derived.Test.YtnafjfdalapegaaQImplAllWithin
import Derived.Test.YtnafjfdalapegaaQImplDistinctInt
import Derived.Test.YtnafjfdalapegaaQImplIsQuestion
import Derived.Test.YtnafjfdalapegaaQImplRightAnswer
import Derived.Test.YtnafjfdalapegaaQImplWithin
import Derived.Test.YtnafjfdalapegaaQLawsEqIntS
import Derived.Test.YtnafjfdalapegaaQLawsEqQuestion
import Derived.Test.YtnafjfdalapegaaQLawsFnExactRightAnswer
import Derived.Test.YtnafjfdalapegaaQLawsSzIntS
import Derived.Test.YtnafjfdalapegaaQLawsSzQuestion
import Derived.Test.YtnafjfdalapegaaQLawsToIntS
import Derived.Test.YtnafjfdalapegaaQLawsToQuestion
import Derived.Test.YtnafjfdalapegaaQSlicesCloneInt
import Derived.Test.YtnafjfdalapegaaQSlicesContainsInt
import Derived.Test.YtnafjfdalapegaaQSlicesIndexInt
import Derived.Test.YtnafjfdalapegaaQSpecExQuestion
import Derived.Test.YtnafjfdalapegaaQSpecExRight
import Derived.Test.YtnafjfdalapegaaQSpecL1Has
import Derived.Test.YtnafjfdalapegaaQSpecL1In
import Derived.Test.YtnafjfdalapegaaQSpecRightAnswer
import Derived.Test.YtnafjfdalapegaaQ0
import Derived.Test.YtnafjfdalapegaaWWords
import Derived.Lib.SlicesCompact
set_option linter.unusedVariables false
set_option linter.unusedSimpArgs false
namespace Go.Proofs.Ytnafjfdalapegaa.Pure
open Go.RowKit Go.Proofs.Ytnafjfdalapegaa.Q Go.Proofs.YtnafjfdalapegaaW.PrintLast Go.Proofs.YtnafjfdalapegaaW.PrintWords
theorem Ev.succ {α : Type} {g : Nat → Option α} {r : α} (h : Ev (fun k => g (k + 1)) r) : Ev g r := Ev.step (fun _ => rfl) h
theorem Ev.k {α : Type} {g : Nat → Option α} {o : Option α} {r : α} (hg : ∀ k, g k = o) (h : o = some r) : Ev g r := ⟨0, fun k _ => (hg k).trans h⟩
theorem Ev.eq {α : Type} {g : Nat → Option α} {r r' : α} (h : Ev g r) (e : r = r') : Ev g r' := e ▸ h
/-- From round i up to round n. -/
theorem Ev.upto {β : Type} {L : Nat → Nat → Option β} {r : β} {n : Nat} (hend : Ev (fun k => L k n) r)
    (hstep : ∀ j, j < n → Ev (fun k => L k (j + 1)) r → Ev (fun k => L k j) r) : ∀ i, i ≤ n → Ev (fun k => L k i) r := by
  intro i hi
  obtain ⟨d, hd⟩ : ∃ d, n = i + d := ⟨n - i, by omega⟩
  induction d generalizing i with
  | zero => simp at hd; subst hd; exact hend
  | succ d ih => exact hstep i (by omega) (ih (i + 1) (by omega) (by omega))
/-- A loop that ends early where P fails. -/
theorem Ev.all {β : Type} {L : Nat → Nat → Option β} {P : Nat → Bool} {n : Nat} {a b : β} (hend : Ev (fun k => L k n) a)
    (hyes : ∀ j r, j < n → P j = true → Ev (fun k => L k (j + 1)) r → Ev (fun k => L k j) r) (hno : ∀ j, j < n → P j = false → Ev (fun k => L k j) b) :
    ∀ i, i ≤ n → Ev (fun k => L k i) (if (List.range' i (n - i)).all P then a else b) := by
  intro i hi
  obtain ⟨d, hd⟩ : ∃ d, n = i + d := ⟨n - i, by omega⟩
  induction d generalizing i with
  | zero => simp at hd; subst hd; simpa using hend
  | succ d ih =>
    have h1 : n - i = (n - (i + 1)) + 1 := by omega
    rw [h1, List.range'_succ]
    simp only [List.all_cons]
    rcases Bool.eq_false_or_eq_true (P i) with hP | hP
    · simp only [hP, Bool.true_and]
      exact hyes i _ (by omega) hP (ih (i + 1) (by omega) (by omega))
    · simpa [hP] using hno i (by omega) hP
theorem Ev.all0 {β : Type} {L : Nat → Nat → Option β} {P : Nat → Bool} {n : Nat} {a b : β} (hend : Ev (fun k => L k n) a)
    (hyes : ∀ j r, j < n → P j = true → Ev (fun k => L k (j + 1)) r → Ev (fun k => L k j) r) (hno : ∀ j, j < n → P j = false → Ev (fun k => L k j) b) :
    Ev (fun k => L k 0) (if (List.range n).all P then a else b) := by
  have := Ev.all hend hyes hno 0 (Nat.zero_le _)
  rwa [Nat.sub_zero, ← List.range_eq_range'] at this

theorem wrap_id {x : Int} (h0 : -9223372036854775808 ≤ x) (h1 : x ≤ 9223372036854775807) : wrap64 x = x := by
  unfold wrap64
  omega
theorem wrap_succ {n : Nat} (h : n < 4611686018427387904) : wrap64 ((n : Int) + 1) = ((n + 1 : Nat) : Int) := by
  rw [wrap_id (by omega) (by omega)]
  omega
theorem nat_nonneg (n : Nat) : (0 ≤ (n : Int)) = True := eq_true (Int.natCast_nonneg n)
/-- A copy, element by element, into a row that was made. -/
theorem Ev.copy {α β : Type} (f : α → β) (l : List α) (za : α) (zb : β) (L : Nat → List β → Int → Option (List β))
    (hstep : ∀ (j : Nat) (s r : List β), j < l.length → s.length = l.length → Ev (fun k => L k (s.set j (f (l.getD j za))) ((j + 1 : Nat) : Int)) r → Ev (fun k => L k s (j : Int)) r)
    (hend : ∀ s : List β, s.length = l.length → Ev (fun k => L k s (l.length : Int)) s) : Ev (fun k => L k (List.replicate l.length zb) 0) (l.map f) := by
  have key := Ev.upto (L := fun k j => L k ((l.map f).take j ++ List.replicate (l.length - j) zb) (j : Int)) (r := l.map f) (n := l.length)
    (by
      have h := hend ((l.map f).take l.length ++ List.replicate (l.length - l.length) zb) (by simp)
      refine Ev.eq h ?_
      rw [Nat.sub_self, List.replicate_zero, List.append_nil, List.take_of_length_le (by simp)])
    (by
      intro j hj h
      have hlen : ((l.map f).take j ++ List.replicate (l.length - j) zb).length = l.length := by simp; omega
      refine hstep j _ _ hj hlen ?_
      have e : ((l.map f).take j ++ List.replicate (l.length - j) zb).set j (f (l.getD j za)) = (l.map f).take (j + 1) ++ List.replicate (l.length - (j + 1)) zb := by
        have e1 : l.length - j = (l.length - (j + 1)) + 1 := by omega
        rw [e1, List.replicate_succ, List.set_append_right _ _ (by simp; omega)]
        have e2 : j - ((l.map f).take j).length = 0 := by simp; omega
        rw [e2, List.set_cons_zero, List.take_succ_eq_append_getElem (by simpa using hj)]
        simp [List.getD_eq_getElem?_getD, List.getElem?_eq_getElem hj]
      rw [e]
      exact h)
    0 (Nat.zero_le _)
  simpa using key
def inB (a b c : Int) : Bool := decide (b ≤ a ∧ a ≤ c)
theorem l1In_eq (a b c : Int) : spec_l1In.f a b c = some (inB a b c) := by
  unfold spec_l1In.f inB
  split <;> simp <;> omega
theorem within_eq (a b c : Int) : impl_within.f a b c = some (inB a b c) := by
  unfold impl_within.f inB
  split <;> simp <;> omega
theorem rdJ (l : List Int) (j : Nat) : rd l (j : Int) = l.getD j 0 := by simp [rd]
/-- The first place of x among d elements from j on, or -1. -/
def idxD (l : List Int) (x : Int) : Nat → Nat → Int
  | 0, _ => -1
  | d + 1, j => if l.getD j 0 = x then (j : Int) else idxD l x d (j + 1)
theorem idxD_nonneg (l : List Int) (x : Int) : ∀ d j, (0 ≤ idxD l x d j) ↔ ∃ i, j ≤ i ∧ i < j + d ∧ l.getD i 0 = x := by
  intro d
  induction d with
  | zero => intro j; simp only [idxD]; constructor <;> intro h <;> omega
  | succ d ih =>
    intro j
    rw [idxD]
    by_cases h : l.getD j 0 = x
    · rw [if_pos h]
      exact ⟨fun _ => ⟨j, by omega, by omega, h⟩, fun _ => by omega⟩
    · rw [if_neg h, ih]
      constructor
      · rintro ⟨i, h1, h2, h3⟩
        exact ⟨i, by omega, by omega, h3⟩
      · rintro ⟨i, h1, h2, h3⟩
        have : i ≠ j := fun e => h (e ▸ h3)
        exact ⟨i, by omega, by omega, h3⟩
theorem getD_mem_iff (l : List Int) (x : Int) : (∃ i, 0 ≤ i ∧ i < 0 + l.length ∧ l.getD i 0 = x) ↔ x ∈ l := by
  rw [List.mem_iff_getElem]
  constructor
  · rintro ⟨i, _, h2, h3⟩
    refine ⟨i, by omega, ?_⟩
    rw [← h3, List.getD_eq_getElem?_getD, List.getElem?_eq_getElem (by omega)]
    rfl
  · rintro ⟨i, h2, h3⟩
    refine ⟨i, by omega, by omega, ?_⟩
    rw [List.getD_eq_getElem?_getD, List.getElem?_eq_getElem h2]
    exact h3
theorem idxD_mem (l : List Int) (x : Int) : decide (idxD l x l.length 0 ≥ 0) = decide (x ∈ l) := by
  rw [decide_eq_decide]
  exact (idxD_nonneg l x l.length 0).trans (getD_mem_iff l x)
theorem index_l0 (l : List Int) (x : Int) (hl : l.length < 4611686018427387904) : ∀ d j, j + d = l.length → Ev (fun k => slices_Index_int.l0 k l x (l.length : Int) (j : Int)) (idxD l x d j) := by
  intro d
  induction d with
  | zero =>
    intro j hj
    refine Ev.succ ?_
    have h1 : ((j : Int) < (l.length : Int)) = False := eq_false (by omega)
    simp only [slices_Index_int.l0, h1, if_false, idxD]
    exact Ev.now _
  | succ d ih =>
    intro j hj
    refine Ev.succ ?_
    have h1 : ((j : Int) < (l.length : Int)) = True := eq_true (by omega)
    simp only [slices_Index_int.l0, h1, if_true, nat_nonneg, rdJ, wrap_succ (show j < 4611686018427387904 by omega), idxD]
    by_cases h : l.getD j 0 = x
    · simp only [eq_true h, eq_true h.symm, if_true]
      exact Ev.now _
    · simp only [eq_false h, eq_false (fun e : x = l.getD j 0 => h e.symm), if_false]
      exact ih (j + 1) (by omega)
theorem index_ev (l : List Int) (x : Int) (hl : l.length < 4611686018427387904) : Ev (fun k => slices_Index_int.f k l x) (idxD l x l.length 0) := by
  unfold slices_Index_int.f
  exact index_l0 l x hl l.length 0 (by omega)
theorem contains_ev (l : List Int) (x : Int) (hl : l.length < 4611686018427387904) : Ev (fun k => slices_Contains_int.f k l x) (decide (x ∈ l)) := by
  unfold slices_Contains_int.f
  refine Ev.bind (index_ev l x hl) ?_
  rw [idxD_mem]
  exact Ev.now _
theorem l1Has_l0 (l : List Int) (x : Int) (hl : l.length < 4611686018427387904) : ∀ d j, j + d = l.length → Ev (fun k => spec_l1Has.l0 k x l (l.length : Int) (j : Int)) (decide (idxD l x d j ≥ 0)) := by
  intro d
  induction d with
  | zero =>
    intro j hj
    refine Ev.succ ?_
    have h1 : ((j : Int) < (l.length : Int)) = False := eq_false (by omega)
    simp only [spec_l1Has.l0, h1, if_false, idxD]
    exact Ev.now _
  | succ d ih =>
    intro j hj
    refine Ev.succ ?_
    have h1 : ((j : Int) < (l.length : Int)) = True := eq_true (by omega)
    simp only [spec_l1Has.l0, h1, if_true, nat_nonneg, rdJ, wrap_succ (show j < 4611686018427387904 by omega), idxD]
    by_cases h : l.getD j 0 = x
    · simp only [eq_true h, if_true]
      refine Ev.eq (Ev.now _) ?_
      simp
    · simp only [eq_false h, if_false]
      exact ih (j + 1) (by omega)
theorem l1Has_ev (l : List Int) (x : Int) (hl : l.length < 4611686018427387904) : Ev (fun k => spec_l1Has.f k l x) (decide (x ∈ l)) := by
  unfold spec_l1Has.f
  rw [← idxD_mem]
  exact l1Has_l0 l x hl l.length 0 (by omega)
theorem pairs_lt (zs : List Int) (h : ∀ j, 0 < j → (hj : j < zs.length) → zs[j - 1]'(by omega) < zs[j]) : ∀ (d i : Nat) (hi : i + d + 1 < zs.length), zs[i]'(by omega) < zs[i + d + 1] := by
  intro d
  induction d with
  | zero => intro i hi; exact h (i + 1) (by omega) hi
  | succ d ih =>
    intro i hi
    have h1 := ih i (by omega)
    have h2 := h (i + d + 1 + 1) (by omega) hi
    have h3 : zs[i + d + 1 + 1 - 1]'(by omega) = zs[i + d + 1]'(by omega) := by congr 1
    have h4 : zs[i + (d + 1) + 1] = zs[i + d + 1 + 1] := by congr 1
    omega
theorem compact_len_iff (zs : List Int) (hs : zs.Pairwise (· ≤ ·)) : (Lib.compact zs).length = zs.length ↔ zs.Nodup := by
  have e : (Lib.compact zs).length = ((List.range zs.length).filter (Lib.keeps zs.toArray)).length := by simp [Lib.compact, Lib.compactUpTo]
  rw [e]
  have e2 : ((List.range zs.length).filter (Lib.keeps zs.toArray)).length = zs.length ↔ ∀ j, j < zs.length → Lib.keeps zs.toArray j = true := by
    constructor
    · intro h j hj
      have h' : ((List.range zs.length).filter (Lib.keeps zs.toArray)).length = (List.range zs.length).length := by rw [h, List.length_range]
      exact List.length_filter_eq_length_iff.1 h' j (List.mem_range.2 hj)
    · intro h
      have := List.length_filter_eq_length_iff.2 (fun j hj => h j (List.mem_range.1 hj))
      rw [this, List.length_range]
  rw [e2]
  have hle := List.pairwise_iff_getElem.1 hs
  constructor
  · intro h
    have hlt : ∀ j, 0 < j → (hj : j < zs.length) → zs[j - 1]'(by omega) < zs[j] := by
      intro j h0 hj
      have h1 := hle (j - 1) j (by omega) hj (by omega)
      have h2 := h j hj
      have h3 : zs[j - 1]'(by omega) ≠ zs[j] := by
        intro e3
        have := Lib.keeps_neg (d := zs.toArray) h0 (by simp [getElem!_pos, show j < zs.length by omega, show j - 1 < zs.length by omega, e3])
        rw [this] at h2
        cases h2
      omega
    rw [List.Nodup, List.pairwise_iff_getElem]
    intro i j hi hj hij
    have := pairs_lt zs hlt (j - i - 1) i (by omega)
    have e4 : zs[i + (j - i - 1) + 1]'(by omega) = zs[j] := by congr 1; omega
    omega
  · intro h j hj
    rw [List.Nodup, List.pairwise_iff_getElem] at h
    by_cases h0 : j = 0
    · subst h0; exact Lib.keeps_lt_one _ 0 (by omega)
    · refine Lib.keeps_pos ?_
      have := h (j - 1) j (by omega) hj (by omega)
      simp [getElem!_pos, show j < zs.length by omega, show j - 1 < zs.length by omega]
      exact fun e => this e.symm
theorem eqIntS_ev (l : List Int) (hl : l.length < 4611686018427387904) : Ev (fun k => laws_eqIntS.f k l l) true := by
  unfold laws_eqIntS.f
  simp only [if_true]
  exact Ev.upto (L := fun k j => laws_eqIntS.l0 k l l (j : Int)) (r := true) (n := l.length)
    (by
      refine Ev.succ ?_
      simp only [laws_eqIntS.l0, Int.lt_irrefl, if_false]
      exact Ev.now _)
    (by
      intro j hj h
      refine Ev.succ ?_
      have h1 : ((j : Int) < (l.length : Int)) = True := eq_true (by omega)
      simp only [laws_eqIntS.l0, h1, if_true, nat_nonneg, wrap_succ (show j < 4611686018427387904 by omega)]
      exact h)
    0 (Nat.zero_le _)
end Go.Proofs.Ytnafjfdalapegaa.Pure
namespace Go.Proofs.Ytnafjfdalapegaa.Pure
open Go.RowKit Go.Proofs.Ytnafjfdalapegaa.Q Go.Proofs.YtnafjfdalapegaaW.PrintWords Go.Proofs.YtnafjfdalapegaaW.PrintLast

theorem distinct_len (l : List Int) (hl : l.length < 17592186044416) : ∃ r, impl_distinct_int.f l = some r ∧ (r.length = l.length ↔ l.Nodup) := by
  unfold impl_distinct_int.f slices_Clone_int.f
  simp only [Option.bind_some, List.length_nil, Nat.zero_add, List.nil_append, eq_true hl, if_true]
  refine ⟨_, rfl, ?_⟩
  have hp : (impl_distinct_int.sorted l).Perm l := List.mergeSort_perm _ _
  have hs : (impl_distinct_int.sorted l).Pairwise (· ≤ ·) := by
    have := List.pairwise_mergeSort (le := fun x y : Int => decide (x ≤ y)) (by intro a b c; simp; omega) (by intro a b; simp; omega) l
    exact this.imp (fun h => of_decide_eq_true h)
  rw [← hp.length_eq, compact_len_iff _ hs]
  exact hp.nodup_iff
def quesB (x : Int) (l : List Int) : Bool := inB l.length 2 4 && (l.all (fun y => decide (0 ≤ y ∧ y ≤ 15)) && (decide l.Nodup && decide (x ∈ l)))
theorem isQuestion_ev (x : Int) (l : List Int) (hl : l.length < 17592186044416) : Ev (fun k => impl_isQuestion.f k x l) (quesB x l) := by
  unfold impl_isQuestion.f quesB
  simp only [within_eq, Option.bind_some, impl_allWithin.f]
  rcases Bool.eq_false_or_eq_true (inB l.length 2 4) with h | h
  · simp only [h, if_true, Bool.true_and]
    rcases Bool.eq_false_or_eq_true (l.all (fun y => decide (0 ≤ y ∧ y ≤ 15))) with h2 | h2
    · simp only [h2, if_true, Bool.true_and]
      obtain ⟨r, hr, hn⟩ := distinct_len l hl
      simp only [hr, Option.bind_some]
      by_cases h3 : l.Nodup
      · have h4 : ((r.length : Int) = (l.length : Int)) = True := eq_true (by have := hn.2 h3; omega)
        simp only [h4, if_true, h3, decide_true, Bool.true_and]
        exact Ev.bind (contains_ev l x (by omega)) (Ev.now _)
      · have h4 : ((r.length : Int) = (l.length : Int)) = False := eq_false (fun e => h3 (hn.1 (by omega)))
        simp only [h4, if_false, h3, decide_false, Bool.false_and]
        exact Ev.now _
    · simp only [h2]
      exact Ev.now _
  · simp only [h]
    exact Ev.now _
def okQ (l : List Int) (i : Nat) : Bool := inB (l.getD i 0) 0 15 && !(decide (l.getD i 0 ∈ l.take i))
theorem okQ_all (l : List Int) : (List.range l.length).all (okQ l) = (l.all (fun y => decide (0 ≤ y ∧ y ≤ 15)) && decide l.Nodup) := by
  have hg : ∀ i (hi : i < l.length), l.getD i 0 = l[i] := fun i hi => by rw [List.getD_eq_getElem?_getD, List.getElem?_eq_getElem hi]; rfl
  rw [Bool.eq_iff_iff, Bool.and_eq_true, List.all_eq_true, List.all_eq_true, decide_eq_true_eq]
  constructor
  · intro h
    constructor
    · intro y hy
      obtain ⟨i, hi, rfl⟩ := List.getElem_of_mem hy
      have := h i (List.mem_range.2 hi)
      rw [okQ, hg i hi, Bool.and_eq_true] at this
      exact this.1
    · rw [List.Nodup, List.pairwise_iff_getElem]
      intro i j hi hj hij e
      have := h j (List.mem_range.2 hj)
      rw [okQ, hg j hj, Bool.and_eq_true, Bool.not_eq_true', decide_eq_false_iff_not] at this
      exact this.2 (List.mem_iff_getElem.2 ⟨i, by rw [List.length_take]; omega, by rw [List.getElem_take]; exact e⟩)
  · rintro ⟨h1, h2⟩ j hj
    have hj' := List.mem_range.1 hj
    rw [okQ, hg j hj', Bool.and_eq_true, Bool.not_eq_true', decide_eq_false_iff_not]
    refine ⟨h1 _ (List.getElem_mem hj'), fun hm => ?_⟩
    obtain ⟨i, hi, e⟩ := List.mem_iff_getElem.1 hm
    rw [List.length_take] at hi
    rw [List.getElem_take] at e
    rw [List.Nodup, List.pairwise_iff_getElem] at h2
    exact h2 i j (by omega) hj' (by omega) e
theorem exQuestion_ev (x : Int) (l : List Int) (hl : l.length < 17592186044416) : Ev (fun k => spec_exQuestion.f k x l) (quesB x l) := by
  unfold spec_exQuestion.f
  have key := Ev.all0 (L := fun k j => spec_exQuestion.l0 k l (l.length : Int) (j : Int) x l) (P := okQ l) (n := l.length) (a := inB l.length 2 4 && decide (x ∈ l)) (b := false)
    (by
      refine Ev.succ ?_
      simp only [spec_exQuestion.l0, Int.lt_irrefl, if_false, l1In_eq, Option.bind_some]
      rcases Bool.eq_false_or_eq_true (inB l.length 2 4) with h | h
      · simp only [h, if_true, Bool.true_and]
        exact Ev.bind (l1Has_ev l x (by omega)) (Ev.now _)
      · simp only [h]
        exact Ev.now _)
    (by
      intro j r hj hP h
      refine Ev.succ ?_
      have h1 : ((j : Int) < (l.length : Int)) = True := eq_true (by omega)
      have h2 : ((j : Int) ≤ (l.length : Int)) = True := eq_true (by omega)
      rw [okQ, Bool.and_eq_true, Bool.not_eq_true'] at hP
      simp only [spec_exQuestion.l0, l1In_eq, Option.bind_some, h1, h2, if_true, nat_nonneg, rdJ, Int.toNat_natCast, wrap_succ (show j < 4611686018427387904 by omega), hP.1]
      refine Ev.bind (l1Has_ev _ _ (by rw [List.length_take]; omega)) ?_
      simp only [hP.2]
      exact h)
    (by
      intro j hj hP
      refine Ev.succ ?_
      have h1 : ((j : Int) < (l.length : Int)) = True := eq_true (by omega)
      have h2 : ((j : Int) ≤ (l.length : Int)) = True := eq_true (by omega)
      rw [okQ] at hP
      simp only [spec_exQuestion.l0, l1In_eq, Option.bind_some, h1, h2, if_true, nat_nonneg, rdJ, Int.toNat_natCast]
      rcases Bool.eq_false_or_eq_true (inB (l.getD j 0) 0 15) with h | h
      · rw [h, Bool.true_and, Bool.not_eq_false'] at hP
        simp only [h, if_true]
        refine Ev.bind (l1Has_ev _ _ (by rw [List.length_take]; omega)) ?_
        simp only [hP, if_true]
        exact Ev.now _
      · simp only [h]
        exact Ev.now _)
  refine Ev.eq key ?_
  rw [okQ_all]
  unfold quesB
  cases inB l.length 2 4 <;> cases (l.all (fun y => decide (0 ≤ y ∧ y ≤ 15))) <;> cases decide l.Nodup <;> cases decide (x ∈ l) <;> rfl
theorem exRight_l0 (l : List Int) (x : Int) (hl : l.length < 4611686018427387904) : ∀ d j, j + d = l.length → Ev (fun k => spec_exRight.l0 k l (l.length : Int) (j : Int) x l) (idxD l x d j) := by
  intro d
  induction d with
  | zero =>
    intro j hj
    refine Ev.succ ?_
    have h1 : ((j : Int) < (l.length : Int)) = False := eq_false (by omega)
    simp only [spec_exRight.l0, h1, if_false, idxD]
    exact Ev.now _
  | succ d ih =>
    intro j hj
    refine Ev.succ ?_
    have h1 : ((j : Int) < (l.length : Int)) = True := eq_true (by omega)
    simp only [spec_exRight.l0, h1, if_true, nat_nonneg, rdJ, wrap_succ (show j < 4611686018427387904 by omega), idxD]
    by_cases h : l.getD j 0 = x
    · simp only [eq_true h, if_true]
      exact Ev.now _
    · simp only [eq_false h, if_false]
      exact ih (j + 1) (by omega)
def rightR (x : Int) (l : List Int) : Int × Bool := if quesB x l then (idxD l x l.length 0, true) else (0, false)
theorem specRight_ev (x : Int) (l : List Int) (hl : l.length < 17592186044416) : Ev (fun k => spec_RightAnswer.f k x l) (rightR x l) := by
  unfold spec_RightAnswer.f rightR
  refine Ev.bind (exQuestion_ev x l hl) ?_
  rcases Bool.eq_false_or_eq_true (quesB x l) with h | h
  · simp only [h, if_true]
    unfold spec_exRight.f
    exact Ev.bind (exRight_l0 l x (by omega) l.length 0 (by omega)) (Ev.now _)
  · simp only [h]
    exact Ev.now _
theorem implRight_ev (x : Int) (l : List Int) (hl : l.length < 17592186044416) : Ev (fun k => impl_RightAnswer.f k x l) (rightR x l) := by
  unfold impl_RightAnswer.f rightR
  refine Ev.bind (isQuestion_ev x l hl) ?_
  rcases Bool.eq_false_or_eq_true (quesB x l) with h | h
  · simp only [h, if_true]
    exact Ev.bind (index_ev l x (by omega)) (Ev.now _)
  · simp only [h]
    exact Ev.now _
theorem toIntS_ev (l : List Int) (hl : l.length * 8 ≤ 140737488351232) : Ev (fun k => laws_toIntS.f k l) l := by
  unfold laws_toIntS.f
  simp only [nat_nonneg, if_true, Int.toNat_natCast, show (l.length ≤ 35184372088832) = True from eq_true (by omega)]
  have key := Ev.copy (fun x : Int => x) l 0 0 (fun k s j => laws_toIntS.l0 k l s j)
    (by
      intro j s r hj hs h
      refine Ev.succ ?_
      have h1 : ((j : Int) < (l.length : Int)) = True := eq_true (by omega)
      simp only [laws_toIntS.l0, h1, if_true, nat_nonneg, hs, Int.toNat_natCast, wrap_succ (show j < 4611686018427387904 by omega), rdJ]
      exact h)
    (by
      intro s hs
      refine Ev.succ ?_
      simp only [laws_toIntS.l0, Int.lt_irrefl, if_false]
      exact Ev.now _)
  simpa using key

theorem FnExactRightAnswer : laws_FnExactRightAnswer.Pure := by
  intro x l _ h _
  refine Ev.rounds ?_
  unfold laws_FnExactRightAnswer.f
  obtain ⟨r, hr, hb⟩ : ∃ r, laws_szQuestion.f x l 1048576 = some r ∧ (0 ≤ r → l.length ≤ 1048576) := by
    unfold laws_szQuestion.f laws_szIntS.f
    rw [wrap_id (x := 1048576 - (l.length : Int)) (by omega) (by omega)]
    by_cases h0 : (1048576 : Int) - l.length < 0
    · simp only [eq_true h0, if_true, Option.bind_some]
      exact ⟨_, rfl, fun h => absurd h (by decide)⟩
    · simp only [eq_false h0, if_false, Option.bind_some]
      exact ⟨_, rfl, by omega⟩
  simp only [hr, Option.bind_some]
  by_cases h0 : r < 0
  · simp only [eq_true h0, if_true]
    exact Ev.now _
  simp only [eq_false h0, if_false]
  have hl := hb (by omega)
  have ht : Ev (fun k => laws_toQuestion.f k x l) (x, l) := by
    unfold laws_toQuestion.f
    exact Ev.bind (toIntS_ev l h) (Ev.now _)
  refine Ev.bind ht ?_
  refine Ev.bind (specRight_ev x l (by omega)) ?_
  refine Ev.bind ht ?_
  refine Ev.bind (implRight_ev x l (by omega)) ?_
  simp only [bne_self_eq_false, if_true]
  refine Ev.succ ?_
  simp only [laws_FnExactRightAnswer.j0]
  refine Ev.bind ht ?_
  simp only [laws_eqQuestion.f, if_true]
  refine Ev.bind (Ev.bind (eqIntS_ev l (by omega)) (Ev.now _)) ?_
  exact Ev.now _
end Go.Proofs.Ytnafjfdalapegaa.Pure
