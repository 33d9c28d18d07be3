/- For all questions and answers, the program's RepeatQuestions returns what the reference's RepeatQuestions returns, anew and of its own, and leaves both lists alone. No condition. -/
import Derived.Test.YtnafjfdalapegaaQBImplAreAnswered
import Derived.Test.YtnafjfdalapegaaQBLawsHeldIntS
import Derived.Test.YtnafjfdalapegaaQBLawsSzIntS
import Derived.Test.YtnafjfdalapegaaQBSlicesCloneInt
import Derived.Test.YtnafjfdalapegaaQBSlicesIndexInt
import Derived.Test.YtnafjfdalapegaaQBSpecExQuestion
import Derived.Test.YtnafjfdalapegaaQBSpecL1Own
import Derived.Test.YtnafjfdalapegaaQBounds
import Derived.Test.YtnafjfdalapegaaQImplAllOfImplQuestion
import Derived.Test.YtnafjfdalapegaaQImplAllWithin
import Derived.Test.YtnafjfdalapegaaQImplIsQuestion
import Derived.Test.YtnafjfdalapegaaQImplRepeatQuestions
import Derived.Test.YtnafjfdalapegaaQLawsFnExactRepeatQuestions
import Derived.Test.YtnafjfdalapegaaQSpecExAnswers
import Derived.Test.YtnafjfdalapegaaQSpecRepeatQuestions
import Derived.Test.YtnafjfdalapegaaQ0
import Derived.Test.YtnafjfdalapegaaWWords
import Derived.Lib.SlicesCompact
import Derived.Test.YtnafjfdalapegaaGIdx
set_option linter.unusedVariables false
set_option linter.unusedSimpArgs false
namespace Go.Proofs.Ytnafjfdalapegaa.Pure
open Go.RowKit Go.Proofs.Ytnafjfdalapegaa.Q Go.Proofs.YtnafjfdalapegaaW.PrintLast Go.Proofs.YtnafjfdalapegaaW.PrintWords
theorem Ev.succ {α : Type} {g : Nat → Option α} {r : α} (h : Ev (fun k => g (k + 1)) r) : Ev g r := Ev.step (fun _ => rfl) h
theorem Ev.k {α : Type} {g : Nat → Option α} {o : Option α} {r : α} (hg : ∀ k, g k = o) (h : o = some r) : Ev g r := ⟨0, fun k _ => (hg k).trans h⟩
theorem Ev.eq {α : Type} {g : Nat → Option α} {r r' : α} (h : Ev g r) (e : r = r') : Ev g r' := e ▸ h
/-- From round i up to round n. -/
theorem Ev.upto {β : Type} {L : Nat → Nat → Option β} {r : β} {n : Nat} (hend : Ev (fun k => L k n) r)
    (hstep : ∀ j, j < n → Ev (fun k => L k (j + 1)) r → Ev (fun k => L k j) r) : ∀ i, i ≤ n → Ev (fun k => L k i) r := by
  intro i hi
  obtain ⟨d, hd⟩ : ∃ d, n = i + d := ⟨n - i, by omega⟩
  induction d generalizing i with
  | zero => simp at hd; subst hd; exact hend
  | succ d ih => exact hstep i (by omega) (ih (i + 1) (by omega) (by omega))
/-- A loop that ends early where P fails. -/
theorem Ev.all {β : Type} {L : Nat → Nat → Option β} {P : Nat → Bool} {n : Nat} {a b : β} (hend : Ev (fun k => L k n) a)
    (hyes : ∀ j r, j < n → P j = true → Ev (fun k => L k (j + 1)) r → Ev (fun k => L k j) r) (hno : ∀ j, j < n → P j = false → Ev (fun k => L k j) b) :
    ∀ i, i ≤ n → Ev (fun k => L k i) (if (List.range' i (n - i)).all P then a else b) := by
  intro i hi
  obtain ⟨d, hd⟩ : ∃ d, n = i + d := ⟨n - i, by omega⟩
  induction d generalizing i with
  | zero => simp at hd; subst hd; simpa using hend
  | succ d ih =>
    have h1 : n - i = (n - (i + 1)) + 1 := by omega
    rw [h1, List.range'_succ]
    simp only [List.all_cons]
    rcases Bool.eq_false_or_eq_true (P i) with hP | hP
    · simp only [hP, Bool.true_and]
      exact hyes i _ (by omega) hP (ih (i + 1) (by omega) (by omega))
    · simpa [hP] using hno i (by omega) hP
theorem Ev.all0 {β : Type} {L : Nat → Nat → Option β} {P : Nat → Bool} {n : Nat} {a b : β} (hend : Ev (fun k => L k n) a)
    (hyes : ∀ j r, j < n → P j = true → Ev (fun k => L k (j + 1)) r → Ev (fun k => L k j) r) (hno : ∀ j, j < n → P j = false → Ev (fun k => L k j) b) :
    Ev (fun k => L k 0) (if (List.range n).all P then a else b) := by
  have := Ev.all hend hyes hno 0 (Nat.zero_le _)
  rwa [Nat.sub_zero, ← List.range_eq_range'] at this

theorem wrap_id {x : Int} (h0 : -9223372036854775808 ≤ x) (h1 : x ≤ 9223372036854775807) : wrap64 x = x := by
  unfold wrap64
  omega
theorem wrap_succ {n : Nat} (h : n < 4611686018427387904) : wrap64 ((n : Int) + 1) = ((n + 1 : Nat) : Int) := by
  rw [wrap_id (by omega) (by omega)]
  omega
theorem nat_nonneg (n : Nat) : (0 ≤ (n : Int)) = True := eq_true (Int.natCast_nonneg n)
/-- A copy, element by element, into a row that was made. -/
theorem Ev.copy {α β : Type} (f : α → β) (l : List α) (za : α) (zb : β) (L : Nat → List β → Int → Option (List β))
    (hstep : ∀ (j : Nat) (s r : List β), j < l.length → s.length = l.length → Ev (fun k => L k (s.set j (f (l.getD j za))) ((j + 1 : Nat) : Int)) r → Ev (fun k => L k s (j : Int)) r)
    (hend : ∀ s : List β, s.length = l.length → Ev (fun k => L k s (l.length : Int)) s) : Ev (fun k => L k (List.replicate l.length zb) 0) (l.map f) := by
  have key := Ev.upto (L := fun k j => L k ((l.map f).take j ++ List.replicate (l.length - j) zb) (j : Int)) (r := l.map f) (n := l.length)
    (by
      have h := hend ((l.map f).take l.length ++ List.replicate (l.length - l.length) zb) (by simp)
      refine Ev.eq h ?_
      rw [Nat.sub_self, List.replicate_zero, List.append_nil, List.take_of_length_le (by simp)])
    (by
      intro j hj h
      have hlen : ((l.map f).take j ++ List.replicate (l.length - j) zb).length = l.length := by simp; omega
      refine hstep j _ _ hj hlen ?_
      have e : ((l.map f).take j ++ List.replicate (l.length - j) zb).set j (f (l.getD j za)) = (l.map f).take (j + 1) ++ List.replicate (l.length - (j + 1)) zb := by
        have e1 : l.length - j = (l.length - (j + 1)) + 1 := by omega
        rw [e1, List.replicate_succ, List.set_append_right _ _ (by simp; omega)]
        have e2 : j - ((l.map f).take j).length = 0 := by simp; omega
        rw [e2, List.set_cons_zero, List.take_succ_eq_append_getElem (by simpa using hj)]
        simp [List.getD_eq_getElem?_getD, List.getElem?_eq_getElem hj]
      rw [e]
      exact h)
    0 (Nat.zero_le _)
  simpa using key
/-- The marks of a row: m a x is x marked from a on, c x how many marks that takes. -/
def markAll {β : Type} (m : Int → β → β) (c : β → Nat) : Int → List β → List β
  | _, [] => []
  | a, x :: r => m a x :: markAll m c (a + c x) r
def markEnd {β : Type} (c : β → Nat) : Int → List β → Int
  | a, [] => a
  | a, x :: r => markEnd c (a + c x) r
theorem markEnd_ge {β : Type} (c : β → Nat) : ∀ (l : List β) (a : Int), a ≤ markEnd c a l
  | [], a => Int.le_refl _
  | x :: r, a => by have := markEnd_ge c r (a + c x); simp only [markEnd]; omega
theorem markAll_length {β : Type} (m : Int → β → β) (c : β → Nat) : ∀ (l : List β) (a : Int), (markAll m c a l).length = l.length
  | [], _ => rfl
  | x :: r, a => by simp [markAll, markAll_length m c r]
theorem Ev.mark {β : Type} (m : Int → β → β) (c : β → Nat) (z : β) (B : Int) (N : Nat) (L : Nat → List β → Int → Int → Option (Int × List β))
    (hstep : ∀ (s : List β) (j : Nat) (a : Int) (r : Int × List β), j < N → s.length = N → 0 ≤ a → a + c (s.getD j z) ≤ B → Ev (fun k => L k (s.set j (m a (s.getD j z))) (a + c (s.getD j z)) ((j + 1 : Nat) : Int)) r → Ev (fun k => L k s a (j : Int)) r)
    (hend : ∀ (s : List β) (a : Int), s.length = N → Ev (fun k => L k s a (N : Int)) (a, s)) :
    ∀ (l : List β) (a : Int), l.length = N → 0 ≤ a → markEnd c a l ≤ B → Ev (fun k => L k l a 0) (markEnd c a l, markAll m c a l) := by
  have key : ∀ (l d : List β) (a : Int), d.length + l.length = N → 0 ≤ a → markEnd c a l ≤ B → Ev (fun k => L k (d ++ l) a (d.length : Int)) (markEnd c a l, d ++ markAll m c a l) := by
    intro l
    induction l with
    | nil =>
      intro d a hN _ _
      simp only [List.append_nil, markEnd, markAll]
      rw [List.length_nil, Nat.add_zero] at hN
      rw [hN]
      exact hend d a hN
    | cons x r ih =>
      intro d a hN h0 h1
      rw [List.length_cons] at hN
      have hx : (d ++ x :: r).getD d.length z = x := by simp [List.getD_eq_getElem?_getD]
      have hB := markEnd_ge c r (a + c x)
      simp only [markEnd] at h1
      refine hstep _ _ _ _ (by omega) (by simp; omega) h0 (by rw [hx]; omega) ?_
      rw [hx]
      have e : (d ++ x :: r).set d.length (m a x) = (d ++ [m a x]) ++ r := by
        rw [List.set_append_right _ _ (Nat.le_refl _), Nat.sub_self, List.set_cons_zero, List.append_assoc]
        rfl
      have h2 := ih (d ++ [m a x]) (a + c x) (by simp; omega) (by omega) h1
      rw [e]
      simpa [markAll, markEnd] using h2
  intro l a hN h0 h1
  simpa using key l [] a (by simpa using hN) h0 h1
theorem Ev.held {β : Type} (m : Int → β → β) (c : β → Nat) (z : β) (B : Int) (N : Nat) (L : Nat → List β → Int → Int → Option Int)
    (hstep : ∀ (s : List β) (j : Nat) (a : Int) (y : β) (r : Int), j < N → s.length = N → s.getD j z = m a y → 0 ≤ a → a + c y ≤ B → Ev (fun k => L k s (a + c y) ((j + 1 : Nat) : Int)) r → Ev (fun k => L k s a (j : Int)) r)
    (hend : ∀ (s : List β) (a : Int), s.length = N → Ev (fun k => L k s a (N : Int)) a) :
    ∀ (l : List β) (a : Int), l.length = N → 0 ≤ a → markEnd c a l ≤ B → Ev (fun k => L k (markAll m c a l) a 0) (markEnd c a l) := by
  have key : ∀ (l d : List β) (a : Int), d.length + l.length = N → 0 ≤ a → markEnd c a l ≤ B → Ev (fun k => L k (d ++ markAll m c a l) a (d.length : Int)) (markEnd c a l) := by
    intro l
    induction l with
    | nil =>
      intro d a hN _ _
      simp only [List.append_nil, markEnd, markAll]
      rw [List.length_nil, Nat.add_zero] at hN
      rw [hN]
      exact hend d a hN
    | cons x r ih =>
      intro d a hN h0 h1
      rw [List.length_cons] at hN
      have hB := markEnd_ge c r (a + c x)
      simp only [markEnd] at h1
      refine hstep _ _ _ x _ (by omega) (by simp [markAll, markAll_length]; omega) (by simp [markAll, List.getD_eq_getElem?_getD]) h0 (by omega) ?_
      have h2 := ih (d ++ [m a x]) (a + c x) (by simp; omega) (by omega) h1
      simpa [markAll, markEnd] using h2
  intro l a hN h0 h1
  simpa using key l [] a (by simpa using hN) h0 h1
def inB (a b c : Int) : Bool := decide (b ≤ a ∧ a ≤ c)
theorem l1In_eq (a b c : Int) : spec_l1In.f a b c = some (inB a b c) := by
  unfold spec_l1In.f inB
  split <;> simp <;> omega
theorem within_eq (a b c : Int) : impl_within.f a b c = some (inB a b c) := by
  unfold impl_within.f inB
  split <;> simp <;> omega
theorem rdJ (l : List Int) (j : Nat) : rd l (j : Int) = l.getD j 0 := by simp [rd]
/-- The first place of x among d elements from j on, or -1. -/
def idxD (l : List Int) (x : Int) : Nat → Nat → Int
  | 0, _ => -1
  | d + 1, j => if l.getD j 0 = x then (j : Int) else idxD l x d (j + 1)
theorem idxD_nonneg (l : List Int) (x : Int) : ∀ d j, (0 ≤ idxD l x d j) ↔ ∃ i, j ≤ i ∧ i < j + d ∧ l.getD i 0 = x := by
  intro d
  induction d with
  | zero => intro j; simp only [idxD]; constructor <;> intro h <;> omega
  | succ d ih =>
    intro j
    rw [idxD]
    by_cases h : l.getD j 0 = x
    · rw [if_pos h]
      exact ⟨fun _ => ⟨j, by omega, by omega, h⟩, fun _ => by omega⟩
    · rw [if_neg h, ih]
      constructor
      · rintro ⟨i, h1, h2, h3⟩
        exact ⟨i, by omega, by omega, h3⟩
      · rintro ⟨i, h1, h2, h3⟩
        have : i ≠ j := fun e => h (e ▸ h3)
        exact ⟨i, by omega, by omega, h3⟩
theorem getD_mem_iff (l : List Int) (x : Int) : (∃ i, 0 ≤ i ∧ i < 0 + l.length ∧ l.getD i 0 = x) ↔ x ∈ l := by
  rw [List.mem_iff_getElem]
  constructor
  · rintro ⟨i, _, h2, h3⟩
    refine ⟨i, by omega, ?_⟩
    rw [← h3, List.getD_eq_getElem?_getD, List.getElem?_eq_getElem (by omega)]
    rfl
  · rintro ⟨i, h2, h3⟩
    refine ⟨i, by omega, by omega, ?_⟩
    rw [List.getD_eq_getElem?_getD, List.getElem?_eq_getElem h2]
    exact h3
theorem idxD_mem (l : List Int) (x : Int) : decide (idxD l x l.length 0 ≥ 0) = decide (x ∈ l) := by
  rw [decide_eq_decide]
  exact (idxD_nonneg l x l.length 0).trans (getD_mem_iff l x)
theorem index_l0 (l : List Int) (x : Int) (hl : l.length < 4611686018427387904) : ∀ d j, j + d = l.length → Ev (fun k => slices_Index_int.l0 k l x (l.length : Int) (j : Int)) (idxD l x d j) := by
  intro d
  induction d with
  | zero =>
    intro j hj
    refine Ev.succ ?_
    have h1 : ((j : Int) < (l.length : Int)) = False := eq_false (by omega)
    simp only [slices_Index_int.l0, h1, if_false, idxD]
    exact Ev.now _
  | succ d ih =>
    intro j hj
    refine Ev.succ ?_
    have h1 : ((j : Int) < (l.length : Int)) = True := eq_true (by omega)
    simp only [slices_Index_int.l0, h1, if_true, nat_nonneg, rdJ, wrap_succ (show j < 4611686018427387904 by omega), idxD]
    by_cases h : l.getD j 0 = x
    · simp only [eq_true h, eq_true h.symm, if_true]
      exact Ev.now _
    · simp only [eq_false h, eq_false (fun e : x = l.getD j 0 => h e.symm), if_false]
      exact ih (j + 1) (by omega)
theorem index_ev (l : List Int) (x : Int) (hl : l.length < 4611686018427387904) : Ev (fun k => slices_Index_int.f k l x) (idxD l x l.length 0) := by
  unfold slices_Index_int.f
  exact index_l0 l x hl l.length 0 (by omega)
theorem contains_ev (l : List Int) (x : Int) (hl : l.length < 4611686018427387904) : Ev (fun k => slices_Contains_int.f k l x) (decide (x ∈ l)) := by
  unfold slices_Contains_int.f
  refine Ev.bind (index_ev l x hl) ?_
  rw [idxD_mem]
  exact Ev.now _
theorem l1Has_l0 (l : List Int) (x : Int) (hl : l.length < 4611686018427387904) : ∀ d j, j + d = l.length → Ev (fun k => spec_l1Has.l0 k x l (l.length : Int) (j : Int)) (decide (idxD l x d j ≥ 0)) := by
  intro d
  induction d with
  | zero =>
    intro j hj
    refine Ev.succ ?_
    have h1 : ((j : Int) < (l.length : Int)) = False := eq_false (by omega)
    simp only [spec_l1Has.l0, h1, if_false, idxD]
    exact Ev.now _
  | succ d ih =>
    intro j hj
    refine Ev.succ ?_
    have h1 : ((j : Int) < (l.length : Int)) = True := eq_true (by omega)
    simp only [spec_l1Has.l0, h1, if_true, nat_nonneg, rdJ, wrap_succ (show j < 4611686018427387904 by omega), idxD]
    by_cases h : l.getD j 0 = x
    · simp only [eq_true h, if_true]
      refine Ev.eq (Ev.now _) ?_
      simp
    · simp only [eq_false h, if_false]
      exact ih (j + 1) (by omega)
theorem l1Has_ev (l : List Int) (x : Int) (hl : l.length < 4611686018427387904) : Ev (fun k => spec_l1Has.f k l x) (decide (x ∈ l)) := by
  unfold spec_l1Has.f
  rw [← idxD_mem]
  exact l1Has_l0 l x hl l.length 0 (by omega)
theorem pairs_lt (zs : List Int) (h : ∀ j, 0 < j → (hj : j < zs.length) → zs[j - 1]'(by omega) < zs[j]) : ∀ (d i : Nat) (hi : i + d + 1 < zs.length), zs[i]'(by omega) < zs[i + d + 1] := by
  intro d
  induction d with
  | zero => intro i hi; exact h (i + 1) (by omega) hi
  | succ d ih =>
    intro i hi
    have h1 := ih i (by omega)
    have h2 := h (i + d + 1 + 1) (by omega) hi
    have h3 : zs[i + d + 1 + 1 - 1]'(by omega) = zs[i + d + 1]'(by omega) := by congr 1
    have h4 : zs[i + (d + 1) + 1] = zs[i + d + 1 + 1] := by congr 1
    omega
theorem compact_len_iff (zs : List Int) (hs : zs.Pairwise (· ≤ ·)) : (Lib.compact zs).length = zs.length ↔ zs.Nodup := by
  have e : (Lib.compact zs).length = ((List.range zs.length).filter (Lib.keeps zs.toArray)).length := by simp [Lib.compact, Lib.compactUpTo]
  rw [e]
  have e2 : ((List.range zs.length).filter (Lib.keeps zs.toArray)).length = zs.length ↔ ∀ j, j < zs.length → Lib.keeps zs.toArray j = true := by
    constructor
    · intro h j hj
      have h' : ((List.range zs.length).filter (Lib.keeps zs.toArray)).length = (List.range zs.length).length := by rw [h, List.length_range]
      exact List.length_filter_eq_length_iff.1 h' j (List.mem_range.2 hj)
    · intro h
      have := List.length_filter_eq_length_iff.2 (fun j hj => h j (List.mem_range.1 hj))
      rw [this, List.length_range]
  rw [e2]
  have hle := List.pairwise_iff_getElem.1 hs
  constructor
  · intro h
    have hlt : ∀ j, 0 < j → (hj : j < zs.length) → zs[j - 1]'(by omega) < zs[j] := by
      intro j h0 hj
      have h1 := hle (j - 1) j (by omega) hj (by omega)
      have h2 := h j hj
      have h3 : zs[j - 1]'(by omega) ≠ zs[j] := by
        intro e3
        have := Lib.keeps_neg (d := zs.toArray) h0 (by simp [getElem!_pos, show j < zs.length by omega, show j - 1 < zs.length by omega, e3])
        rw [this] at h2
        cases h2
      omega
    rw [List.Nodup, List.pairwise_iff_getElem]
    intro i j hi hj hij
    have := pairs_lt zs hlt (j - i - 1) i (by omega)
    have e4 : zs[i + (j - i - 1) + 1]'(by omega) = zs[j] := by congr 1; omega
    omega
  · intro h j hj
    rw [List.Nodup, List.pairwise_iff_getElem] at h
    by_cases h0 : j = 0
    · subst h0; exact Lib.keeps_lt_one _ 0 (by omega)
    · refine Lib.keeps_pos ?_
      have := h (j - 1) j (by omega) hj (by omega)
      simp [getElem!_pos, show j < zs.length by omega, show j - 1 < zs.length by omega]
      exact fun e => this e.symm
theorem distinct_len (l : List Int) (hl : l.length < 17592186044416) : ∃ r, impl_distinct_int.f l = some r ∧ (r.length = l.length ↔ l.Nodup) := by
  unfold impl_distinct_int.f slices_Clone_int.f
  simp only [Option.bind_some, List.length_nil, Nat.zero_add, List.nil_append, eq_true hl, if_true]
  refine ⟨_, rfl, ?_⟩
  have hp : (impl_distinct_int.sorted l).Perm l := List.mergeSort_perm _ _
  have hs : (impl_distinct_int.sorted l).Pairwise (· ≤ ·) := by
    have := List.pairwise_mergeSort (le := fun x y : Int => decide (x ≤ y)) (by intro a b c; simp; omega) (by intro a b; simp; omega) l
    exact this.imp (fun h => of_decide_eq_true h)
  rw [← hp.length_eq, compact_len_iff _ hs]
  exact hp.nodup_iff
def quesB (x : Int) (l : List Int) : Bool := inB l.length 2 4 && (l.all (fun y => decide (0 ≤ y ∧ y ≤ 15)) && (decide l.Nodup && decide (x ∈ l)))
theorem isQuestion_ev (x : Int) (l : List Int) (hl : l.length < 17592186044416) : Ev (fun k => impl_isQuestion.f k x l) (quesB x l) := by
  unfold impl_isQuestion.f quesB
  simp only [within_eq, Option.bind_some, impl_allWithin.f]
  rcases Bool.eq_false_or_eq_true (inB l.length 2 4) with h | h
  · simp only [h, if_true, Bool.true_and]
    rcases Bool.eq_false_or_eq_true (l.all (fun y => decide (0 ≤ y ∧ y ≤ 15))) with h2 | h2
    · simp only [h2, if_true, Bool.true_and]
      obtain ⟨r, hr, hn⟩ := distinct_len l hl
      simp only [hr, Option.bind_some]
      by_cases h3 : l.Nodup
      · have h4 : ((r.length : Int) = (l.length : Int)) = True := eq_true (by have := hn.2 h3; omega)
        simp only [h4, if_true, h3, decide_true, Bool.true_and]
        exact Ev.bind (contains_ev l x (by omega)) (Ev.now _)
      · have h4 : ((r.length : Int) = (l.length : Int)) = False := eq_false (fun e => h3 (hn.1 (by omega)))
        simp only [h4, if_false, h3, decide_false, Bool.false_and]
        exact Ev.now _
    · simp only [h2]
      exact Ev.now _
  · simp only [h]
    exact Ev.now _
def okQ (l : List Int) (i : Nat) : Bool := inB (l.getD i 0) 0 15 && !(decide (l.getD i 0 ∈ l.take i))
theorem okQ_all (l : List Int) : (List.range l.length).all (okQ l) = (l.all (fun y => decide (0 ≤ y ∧ y ≤ 15)) && decide l.Nodup) := by
  have hg : ∀ i (hi : i < l.length), l.getD i 0 = l[i] := fun i hi => by rw [List.getD_eq_getElem?_getD, List.getElem?_eq_getElem hi]; rfl
  rw [Bool.eq_iff_iff, Bool.and_eq_true, List.all_eq_true, List.all_eq_true, decide_eq_true_eq]
  constructor
  · intro h
    constructor
    · intro y hy
      obtain ⟨i, hi, rfl⟩ := List.getElem_of_mem hy
      have := h i (List.mem_range.2 hi)
      rw [okQ, hg i hi, Bool.and_eq_true] at this
      exact this.1
    · rw [List.Nodup, List.pairwise_iff_getElem]
      intro i j hi hj hij e
      have := h j (List.mem_range.2 hj)
      rw [okQ, hg j hj, Bool.and_eq_true, Bool.not_eq_true', decide_eq_false_iff_not] at this
      exact this.2 (List.mem_iff_getElem.2 ⟨i, by rw [List.length_take]; omega, by rw [List.getElem_take]; exact e⟩)
  · rintro ⟨h1, h2⟩ j hj
    have hj' := List.mem_range.1 hj
    rw [okQ, hg j hj', Bool.and_eq_true, Bool.not_eq_true', decide_eq_false_iff_not]
    refine ⟨h1 _ (List.getElem_mem hj'), fun hm => ?_⟩
    obtain ⟨i, hi, e⟩ := List.mem_iff_getElem.1 hm
    rw [List.length_take] at hi
    rw [List.getElem_take] at e
    rw [List.Nodup, List.pairwise_iff_getElem] at h2
    exact h2 i j (by omega) hj' (by omega) e
theorem exQuestion_ev (x : Int) (l : List Int) (hl : l.length < 17592186044416) : Ev (fun k => spec_exQuestion.f k x l) (quesB x l) := by
  unfold spec_exQuestion.f
  have key := Ev.all0 (L := fun k j => spec_exQuestion.l0 k l (l.length : Int) (j : Int) x l) (P := okQ l) (n := l.length) (a := inB l.length 2 4 && decide (x ∈ l)) (b := false)
    (by
      refine Ev.succ ?_
      simp only [spec_exQuestion.l0, Int.lt_irrefl, if_false, l1In_eq, Option.bind_some]
      rcases Bool.eq_false_or_eq_true (inB l.length 2 4) with h | h
      · simp only [h, if_true, Bool.true_and]
        exact Ev.bind (l1Has_ev l x (by omega)) (Ev.now _)
      · simp only [h]
        exact Ev.now _)
    (by
      intro j r hj hP h
      refine Ev.succ ?_
      have h1 : ((j : Int) < (l.length : Int)) = True := eq_true (by omega)
      have h2 : ((j : Int) ≤ (l.length : Int)) = True := eq_true (by omega)
      rw [okQ, Bool.and_eq_true, Bool.not_eq_true'] at hP
      simp only [spec_exQuestion.l0, l1In_eq, Option.bind_some, h1, h2, if_true, nat_nonneg, rdJ, Int.toNat_natCast, wrap_succ (show j < 4611686018427387904 by omega), hP.1]
      refine Ev.bind (l1Has_ev _ _ (by rw [List.length_take]; omega)) ?_
      simp only [hP.2]
      exact h)
    (by
      intro j hj hP
      refine Ev.succ ?_
      have h1 : ((j : Int) < (l.length : Int)) = True := eq_true (by omega)
      have h2 : ((j : Int) ≤ (l.length : Int)) = True := eq_true (by omega)
      rw [okQ] at hP
      simp only [spec_exQuestion.l0, l1In_eq, Option.bind_some, h1, h2, if_true, nat_nonneg, rdJ, Int.toNat_natCast]
      rcases Bool.eq_false_or_eq_true (inB (l.getD j 0) 0 15) with h | h
      · rw [h, Bool.true_and, Bool.not_eq_false'] at hP
        simp only [h, if_true]
        refine Ev.bind (l1Has_ev _ _ (by rw [List.length_take]; omega)) ?_
        simp only [hP, if_true]
        exact Ev.now _
      · simp only [h]
        exact Ev.now _)
  refine Ev.eq key ?_
  rw [okQ_all]
  unfold quesB
  cases inB l.length 2 4 <;> cases (l.all (fun y => decide (0 ≤ y ∧ y ≤ 15))) <;> cases decide l.Nodup <;> cases decide (x ∈ l) <;> rfl
theorem exRight_l0 (l : List Int) (x : Int) (hl : l.length < 4611686018427387904) : ∀ d j, j + d = l.length → Ev (fun k => spec_exRight.l0 k l (l.length : Int) (j : Int) x l) (idxD l x d j) := by
  intro d
  induction d with
  | zero =>
    intro j hj
    refine Ev.succ ?_
    have h1 : ((j : Int) < (l.length : Int)) = False := eq_false (by omega)
    simp only [spec_exRight.l0, h1, if_false, idxD]
    exact Ev.now _
  | succ d ih =>
    intro j hj
    refine Ev.succ ?_
    have h1 : ((j : Int) < (l.length : Int)) = True := eq_true (by omega)
    simp only [spec_exRight.l0, h1, if_true, nat_nonneg, rdJ, wrap_succ (show j < 4611686018427387904 by omega), idxD]
    by_cases h : l.getD j 0 = x
    · simp only [eq_true h, if_true]
      exact Ev.now _
    · simp only [eq_false h, if_false]
      exact ih (j + 1) (by omega)
theorem anyO_ev {α : Type} {p : Nat → α → Option Bool} {f : α → Bool} : ∀ {l : List α}, (∀ x, x ∈ l → Ev (fun k => p k x) (f x)) → Ev (fun k => Go.Proofs.YtnafjfdalapegaaW.GIdx.anyO (p k) l) (l.any f)
  | [], _ => Ev.now _
  | x :: l, h => by
    unfold Go.Proofs.YtnafjfdalapegaaW.GIdx.anyO
    refine Ev.bind (h x (List.mem_cons_self ..)) ?_
    rw [List.any_cons]
    cases f x with
    | true => exact Ev.now _
    | false => simpa using anyO_ev (l := l) fun y hy => h y (List.mem_cons_of_mem _ hy)
theorem ev_map {α β : Type} {g : Nat → Option α} {r : α} (h : Ev g r) (f : α → β) : Ev (fun k => (g k).map f) (f r) := by
  obtain ⟨K, h⟩ := h
  exact ⟨K, fun k hk => by show (g k).map f = some (f r); rw [h k hk]; rfl⟩
theorem any_not {α : Type} (l : List α) (f : α → Bool) : (!l.any fun x => !f x) = l.all f := by
  induction l with
  | nil => rfl
  | cons x l ih => rw [List.any_cons, List.all_cons, ← ih, Bool.not_or, Bool.not_not]
theorem allO_ev {α : Type} {p : Nat → α → Option Bool} {f : α → Bool} {l : List α} (h : ∀ x, x ∈ l → Ev (fun k => p k x) (f x)) : Ev (fun k => Go.Proofs.YtnafjfdalapegaaW.GIdx.allO (p k) l) (l.all f) := by
  unfold Go.Proofs.YtnafjfdalapegaaW.GIdx.allO
  have h1 := anyO_ev (p := fun k x => (p k x).map (!·)) (f := fun x => !f x) (l := l) (fun x hx => ev_map (h x hx) _)
  have h2 := ev_map h1 (fun b => !b)
  rw [any_not] at h2
  exact h2
theorem rdI (l : List Int) (j : Nat) : rd l (j : Int) = l.getD j 0 := by simp [rd]
theorem eqIntS_ev (l : List Int) (hl : l.length < 4611686018427387904) : Ev (fun k => laws_eqIntS.f k l l) true := by
  unfold laws_eqIntS.f
  simp only [if_true]
  exact Ev.upto (L := fun k j => laws_eqIntS.l0 k l l (j : Int)) (r := true) (n := l.length)
    (by
      refine Ev.succ ?_
      simp only [laws_eqIntS.l0, Int.lt_irrefl, if_false]
      exact Ev.now _)
    (by
      intro j hj h
      refine Ev.succ ?_
      have h1 : ((j : Int) < (l.length : Int)) = True := eq_true (by omega)
      simp only [laws_eqIntS.l0, h1, if_true, nat_nonneg, wrap_succ (show j < 4611686018427387904 by omega)]
      exact h)
    0 (Nat.zero_le _)
theorem toIntS_ev (l : List Int) (hl : l.length * 8 ≤ 140737488351232) : Ev (fun k => laws_toIntS.f k l) l := by
  unfold laws_toIntS.f
  simp only [nat_nonneg, if_true, Int.toNat_natCast, show (l.length ≤ 35184372088832) = True from eq_true (by omega)]
  have key := Ev.copy (fun x : Int => x) l 0 0 (fun k s j => laws_toIntS.l0 k l s j)
    (by
      intro j s r hj hs h
      refine Ev.succ ?_
      have h1 : ((j : Int) < (l.length : Int)) = True := eq_true (by omega)
      simp only [laws_toIntS.l0, h1, if_true, nat_nonneg, hs, Int.toNat_natCast, wrap_succ (show j < 4611686018427387904 by omega), rdJ]
      exact h)
    (by
      intro s hs
      refine Ev.succ ?_
      simp only [laws_toIntS.l0, Int.lt_irrefl, if_false]
      exact Ev.now _)
  simpa using key

def qat (l : List S28) (j : Nat) : S28 := l.getD j z28
theorem rdq (l : List S28) (j : Nat) : rd_T28 l (j : Int) = qat l j := by simp [rd_T28, qat]
theorem rdqL (l : List S24) (j : Nat) : rd_T24 l (j : Int) = l.getD j z24 := by simp [rd_T24]
theorem qat_get (l : List S28) (j : Nat) (h : j < l.length) : qat l j = l[j] := by unfold qat; rw [List.getD_eq_getElem?_getD, List.getElem?_eq_getElem h]; rfl
/-- All choices are few enough. -/
def QSz (l : List S28) : Prop := ∀ q, q ∈ l → q.f1.length ≤ 1048576
def qOk (q : S28) : Bool := quesB q.f0 q.f1
def ansAt (l : List S28) (a : List Int) (i : Nat) : Bool := inB (a.getD i 0) (-1) (((qat l i).f1.length : Int) - 1)
def ansB (l : List S28) (a : List Int) : Bool := decide (l.length ≤ 20) && (l.all qOk && (decide (a.length = l.length) && (List.range l.length).all (ansAt l a)))
theorem qsz_at {l : List S28} (hz : QSz l) {j : Nat} (hj : j < l.length) : (qat l j).f1.length ≤ 1048576 := by rw [qat_get l j hj]; exact hz _ (List.getElem_mem hj)
theorem areAnswered_ev (l : List S28) (a : List Int) (hl : l.length ≤ 1048576) (ha : a.length ≤ 1048576) (hz : QSz l) : Ev (fun k => impl_areAnswered.f k l a) (ansB l a) := by
  unfold impl_areAnswered.f ansB
  by_cases h1 : l.length ≤ 20
  · have g1 : ((l.length : Int) > 20) = False := eq_false (by omega)
    simp only [g1, if_false, h1, decide_true, Bool.true_and]
    unfold impl_allOf_impl_Question.f
    refine Ev.bind (allO_ev (f := qOk) (fun q hq => isQuestion_ev q.f0 q.f1 (by have := hz q hq; omega))) ?_
    rcases Bool.eq_false_or_eq_true (l.all qOk) with h2 | h2
    · simp only [h2, if_true, Bool.true_and]
      refine Ev.succ ?_
      by_cases h3 : a.length = l.length
      · simp only [impl_areAnswered.j0, h3, bne_self_eq_false, Bool.false_eq_true, if_false, decide_true, Bool.true_and]
        refine Ev.eq (Ev.all0 (L := fun k j => impl_areAnswered.l0 k a l (l.length : Int) (j : Int)) (P := ansAt l a) (n := l.length) (a := true) (b := false) ?_ ?_ ?_) (by cases (List.range l.length).all (ansAt l a) <;> rfl)
        · refine Ev.succ ?_
          simp only [impl_areAnswered.l0, Int.lt_irrefl, if_false]
          exact Ev.now _
        · intro j r hj hP h
          refine Ev.succ ?_
          have g1 : ((j : Int) < (l.length : Int)) = True := eq_true (by omega)
          have g2 : ((j : Int) < (a.length : Int)) = True := eq_true (by omega)
          have := qsz_at hz hj
          unfold ansAt at hP
          simp only [impl_areAnswered.l0, g1, g2, if_true, nat_nonneg, rdq, rdJ, within_eq, Option.bind_some, wrap_id (x := ((qat l j).f1.length : Int) - 1) (by omega) (by omega), hP, wrap_succ (show j < 4611686018427387904 by omega)]
          exact h
        · intro j hj hP
          refine Ev.succ ?_
          have g1 : ((j : Int) < (l.length : Int)) = True := eq_true (by omega)
          have g2 : ((j : Int) < (a.length : Int)) = True := eq_true (by omega)
          have := qsz_at hz hj
          unfold ansAt at hP
          simp only [impl_areAnswered.l0, g1, g2, if_true, nat_nonneg, rdq, rdJ, within_eq, Option.bind_some, wrap_id (x := ((qat l j).f1.length : Int) - 1) (by omega) (by omega), hP, Bool.false_eq_true, if_false]
          exact Ev.now _
      · have g3 : ((a.length : Int) != (l.length : Int)) = true := by simp; omega
        simp only [impl_areAnswered.j0, g3, if_true, h3, decide_false, Bool.false_and]
        exact Ev.now _
    · simp only [h2, Bool.false_eq_true, if_false, Bool.false_and]
      refine Ev.succ ?_
      simp only [impl_areAnswered.j0, if_true]
      exact Ev.now _
  · have g1 : ((l.length : Int) > 20) = True := eq_true (by omega)
    simp only [g1, if_true, h1, decide_false, Bool.false_and]
    refine Ev.succ ?_
    simp only [impl_areAnswered.j0, if_true]
    exact Ev.now _
theorem exAnswers_ev (l : List S28) (a : List Int) (hl : l.length ≤ 1048576) (ha : a.length ≤ 1048576) (hz : QSz l) : Ev (fun k => spec_exAnswers.f k l a) (ansB l a) := by
  unfold spec_exAnswers.f ansB
  by_cases h1 : l.length ≤ 20
  · have g1 : ((l.length : Int) > 20) = False := eq_false (by omega)
    simp only [g1, if_false, h1, decide_true, Bool.true_and]
    refine Ev.succ ?_
    by_cases h3 : a.length = l.length
    · simp only [spec_exAnswers.j0, h3, bne_self_eq_false, Bool.false_eq_true, if_false, decide_true, Bool.true_and]
      refine Ev.eq (Ev.all0 (L := fun k j => spec_exAnswers.l0 k a l (l.length : Int) (j : Int)) (P := fun j => qOk (qat l j) && ansAt l a j) (n := l.length) (a := true) (b := false) ?_ ?_ ?_) ?_
      · refine Ev.succ ?_
        simp only [spec_exAnswers.l0, Int.lt_irrefl, if_false]
        exact Ev.now _
      · intro j r hj hP h
        refine Ev.succ ?_
        have g1 : ((j : Int) < (l.length : Int)) = True := eq_true (by omega)
        have g2 : ((j : Int) < (a.length : Int)) = True := eq_true (by omega)
        have := qsz_at hz hj
        rw [Bool.and_eq_true] at hP
        obtain ⟨hP1, hP2⟩ := hP
        unfold qOk at hP1
        unfold ansAt at hP2
        simp only [spec_exAnswers.l0, g1, g2, if_true, nat_nonneg, rdq, rdJ, l1In_eq, Option.bind_some, wrap_id (x := ((qat l j).f1.length : Int) - 1) (by omega) (by omega), wrap_succ (show j < 4611686018427387904 by omega)]
        refine Ev.bind (exQuestion_ev _ _ (by omega)) ?_
        simp only [hP1, hP2, if_true]
        exact h
      · intro j hj hP
        refine Ev.succ ?_
        have g1 : ((j : Int) < (l.length : Int)) = True := eq_true (by omega)
        have g2 : ((j : Int) < (a.length : Int)) = True := eq_true (by omega)
        have := qsz_at hz hj
        simp only [spec_exAnswers.l0, g1, g2, if_true, nat_nonneg, rdq, rdJ, l1In_eq, Option.bind_some, wrap_id (x := ((qat l j).f1.length : Int) - 1) (by omega) (by omega)]
        refine Ev.bind (exQuestion_ev _ _ (by omega)) ?_
        unfold qOk ansAt at hP
        rcases Bool.eq_false_or_eq_true (quesB (qat l j).f0 (qat l j).f1) with h2 | h2
        · rw [h2, Bool.true_and] at hP
          simp only [h2, hP, if_true, Bool.false_eq_true, if_false]
          exact Ev.now _
        · simp only [h2, Bool.false_eq_true, if_false]
          exact Ev.now _
      · have e : (List.range l.length).all (fun j => qOk (qat l j) && ansAt l a j) = (l.all qOk && (List.range l.length).all (ansAt l a)) := by
          rw [Bool.eq_iff_iff, Bool.and_eq_true, List.all_eq_true, List.all_eq_true, List.all_eq_true]
          constructor
          · intro h
            refine ⟨fun q hq => ?_, fun j hj => ?_⟩
            · obtain ⟨i, hi, rfl⟩ := List.mem_iff_getElem.1 hq
              have := h i (List.mem_range.2 hi)
              rw [Bool.and_eq_true, qat_get l i hi] at this
              exact this.1
            · have := h j hj
              rw [Bool.and_eq_true] at this
              exact this.2
          · rintro ⟨h1, h2⟩ j hj
            rw [Bool.and_eq_true, qat_get l j (List.mem_range.1 hj)]
            exact ⟨h1 _ (List.getElem_mem _), h2 j hj⟩
        rw [e]
        cases l.all qOk && (List.range l.length).all (ansAt l a) <;> rfl
    · have g3 : ((a.length : Int) != (l.length : Int)) = true := by simp; omega
      simp only [spec_exAnswers.j0, g3, if_true, h3, decide_false, Bool.false_and, Bool.and_false]
      exact Ev.now _
  · have g1 : ((l.length : Int) > 20) = True := eq_true (by omega)
    simp only [g1, if_true, h1, decide_false, Bool.false_and]
    refine Ev.succ ?_
    simp only [spec_exAnswers.j0, if_true]
    exact Ev.now _
theorem ansB_facts {l : List S28} {a : List Int} (h : ansB l a = true) : l.length ≤ 20 ∧ a.length = l.length ∧ ∀ j, j < l.length → quesB (qat l j).f0 (qat l j).f1 = true ∧ -1 ≤ a.getD j 0 ∧ a.getD j 0 < (qat l j).f1.length := by
  unfold ansB at h
  rw [Bool.and_eq_true, Bool.and_eq_true, Bool.and_eq_true, decide_eq_true_eq, decide_eq_true_eq, List.all_eq_true, List.all_eq_true] at h
  obtain ⟨h1, h2, h3, h4⟩ := h
  refine ⟨h1, h3, fun j hj => ⟨?_, ?_⟩⟩
  · rw [qat_get l j hj]
    exact h2 _ (List.getElem_mem hj)
  · have := of_decide_eq_true (h4 j (List.mem_range.2 hj))
    omega
/-- An answer is the place of the right choice just where that choice is the word asked for. -/
theorem right_iff (l : List Int) (x a : Int) (h : quesB x l = true) (h0 : 0 ≤ a) (h1 : a < l.length) : a = idxD l x l.length 0 ↔ rd l a = x := by
  obtain ⟨n, rfl⟩ : ∃ n : Nat, a = (n : Int) := ⟨a.toNat, by omega⟩
  unfold quesB at h
  rw [Bool.and_eq_true, Bool.and_eq_true, Bool.and_eq_true, decide_eq_true_eq, decide_eq_true_eq] at h
  obtain ⟨_, _, hn, hx⟩ := h
  have hg : ∀ i (hi : i < l.length), l.getD i 0 = l[i] := fun i hi => by rw [List.getD_eq_getElem?_getD, List.getElem?_eq_getElem hi]; rfl
  have key : ∀ d j, j + d = l.length → 0 ≤ idxD l x d j → ∃ i : Nat, idxD l x d j = (i : Int) ∧ i < l.length ∧ l.getD i 0 = x := by
    intro d
    induction d with
    | zero => intro j _ h; simp [idxD] at h
    | succ d ih =>
      intro j hj h
      rw [idxD] at h ⊢
      by_cases hq : l.getD j 0 = x
      · rw [if_pos hq]
        exact ⟨j, rfl, by omega, hq⟩
      · rw [if_neg hq] at h ⊢
        exact ih (j + 1) (by omega) h
  have hpos : 0 ≤ idxD l x l.length 0 := of_decide_eq_true ((idxD_mem l x).trans (decide_eq_true hx))
  obtain ⟨i, e, hi, hxi⟩ := key l.length 0 (by omega) hpos
  rw [e, rdJ]
  constructor
  · intro h2
    have : n = i := by omega
    subst this
    exact hxi
  · intro h2
    have hn' : n < l.length := by omega
    rw [hg n hn'] at h2
    rw [hg i hi] at hxi
    rw [List.Nodup, List.pairwise_iff_getElem] at hn
    rcases Nat.lt_trichotomy n i with h3 | h3 | h3
    · exact absurd (h2.trans hxi.symm) (hn n i hn' hi h3)
    · omega
    · exact absurd (hxi.trans h2.symm) (hn i n hi hn' h3)
theorem right_neg (l : List Int) (x : Int) (h : quesB x l = true) : idxD l x l.length 0 ≠ -1 := by
  unfold quesB at h
  rw [Bool.and_eq_true, Bool.and_eq_true, Bool.and_eq_true, decide_eq_true_eq, decide_eq_true_eq] at h
  have hpos : 0 ≤ idxD l x l.length 0 := of_decide_eq_true ((idxD_mem l x).trans (decide_eq_true h.2.2.2))
  omega
/-- Whether the j-th answer is right. -/
def rightAt (l : List S28) (a : List Int) (j : Nat) : Bool := decide (0 ≤ a.getD j 0) && decide (rd (qat l j).f1 (a.getD j 0) = (qat l j).f0)
theorem isRight_eq (l : List S28) (a : List Int) (h : ansB l a = true) (j : Nat) (hj : j < l.length) : impl_Question_isRight.f (qat l j).f0 (qat l j).f1 (a.getD j 0) = some (rightAt l a j) := by
  obtain ⟨_, _, h3⟩ := ansB_facts h
  obtain ⟨_, h5, h6⟩ := h3 j hj
  unfold impl_Question_isRight.f rightAt
  by_cases h0 : 0 ≤ a.getD j 0
  · have g : (a.getD j 0 ≥ 0) = True := eq_true h0
    simp only [g, h0, h6, if_true, decide_true, Bool.true_and]
    rfl
  · have g : (a.getD j 0 ≥ 0) = False := eq_false h0
    simp only [g, h0, if_false, decide_false, Bool.false_and]
theorem exRight_ev (l : List S28) (j : Nat) (hj : (qat l j).f1.length < 4611686018427387904) : Ev (fun k => spec_exRight.f k (qat l j).f0 (qat l j).f1) (idxD (qat l j).f1 (qat l j).f0 (qat l j).f1.length 0) := by
  unfold spec_exRight.f
  exact exRight_l0 _ _ hj _ 0 (by omega)
theorem rightAt_iff (l : List S28) (a : List Int) (h : ansB l a = true) (j : Nat) (hj : j < l.length) : a.getD j 0 = idxD (qat l j).f1 (qat l j).f0 (qat l j).f1.length 0 ↔ rightAt l a j = true := by
  obtain ⟨_, _, h3⟩ := ansB_facts h
  obtain ⟨h4, h5, h6⟩ := h3 j hj
  unfold rightAt
  rw [Bool.and_eq_true, decide_eq_true_eq, decide_eq_true_eq]
  by_cases h0 : 0 ≤ a.getD j 0
  · rw [right_iff _ _ _ h4 h0 h6]
    exact ⟨fun h => ⟨h0, h⟩, fun h => h.2⟩
  · have e : a.getD j 0 = -1 := by omega
    have := right_neg _ _ h4
    rw [e]
    constructor
    · intro h2; exact absurd h2.symm this
    · intro h2; omega
/-! the laws' helpers -/
def qconv (x : S24) : S28 := ⟨x.f0, x.f1⟩
theorem toQuestionS_ev (l : List S24) (hl : l.length * 32 ≤ 140737488351232) (hz : ∀ y, y ∈ l → B24 y) : Ev (fun k => laws_toQuestionS.f k l) (l.map qconv) := by
  unfold laws_toQuestionS.f
  simp only [nat_nonneg, if_true, Int.toNat_natCast, show (l.length ≤ 8796093022208) = True from eq_true (by omega)]
  refine Ev.copy qconv l z24 z28 (fun k s j => laws_toQuestionS.l0 k l s j) ?_ ?_
  · intro j s r hj hs h
    refine Ev.succ ?_
    have h1 : ((j : Int) < (l.length : Int)) = True := eq_true (by omega)
    have hy := hz (l.getD j z24) (by rw [List.getD_eq_getElem?_getD, List.getElem?_eq_getElem hj]; exact List.getElem_mem hj)
    simp only [laws_toQuestionS.l0, h1, if_true, nat_nonneg, hs, Int.toNat_natCast, wrap_succ (show j < 4611686018427387904 by omega), rdqL]
    unfold laws_toQuestion.f
    refine Ev.bind (Ev.bind (toIntS_ev _ hy.2.1) (Ev.now _)) ?_
    exact h
  · intro s hs
    refine Ev.succ ?_
    simp only [laws_toQuestionS.l0, Int.lt_irrefl, if_false]
    exact Ev.now _
theorem eqQuestionS_ev (l : List S28) (hl : l.length < 4611686018427387904) (hz : QSz l) : Ev (fun k => laws_eqQuestionS.f k l l) true := by
  unfold laws_eqQuestionS.f
  simp only [if_true]
  exact Ev.upto (L := fun k j => laws_eqQuestionS.l0 k l l (j : Int)) (r := true) (n := l.length)
    (by
      refine Ev.succ ?_
      simp only [laws_eqQuestionS.l0, Int.lt_irrefl, if_false]
      exact Ev.now _)
    (by
      intro j hj h
      refine Ev.succ ?_
      have h1 : ((j : Int) < (l.length : Int)) = True := eq_true (by omega)
      have := qsz_at hz hj
      simp only [laws_eqQuestionS.l0, h1, if_true, nat_nonneg, wrap_succ (show j < 4611686018427387904 by omega), rdq]
      unfold laws_eqQuestion.f
      simp only [if_true]
      refine Ev.bind (Ev.bind (eqIntS_ev _ (by omega)) (by simp only [if_true]; exact Ev.now _)) ?_
      simp only [if_true]
      exact h)
    0 (Nat.zero_le _)
/-- How many numbers there are in all. -/
def qsum : List S24 → Nat
  | [] => 0
  | x :: l => x.f1.length + qsum l
theorem qsum_mem : ∀ {l : List S24} {x}, x ∈ l → x.f1.length ≤ qsum l
  | y :: l, x, h => by
    rcases List.mem_cons.1 h with rfl | h
    · simp [qsum]
    · have := qsum_mem h
      simp only [qsum]
      omega
theorem szQuestionA_ev (l : List S24) (A : Int) (hA0 : 0 ≤ A) (hA1 : A ≤ 1048576) (hl : l.length * 32 ≤ 140737488351232) (hz : ∀ y, y ∈ l → B24 y) : ∃ r, (0 ≤ r → (l.length : Int) + qsum l ≤ A) ∧ Ev (fun k => laws_szQuestionS.f k l A) r := by
  unfold laws_szQuestionS.f
  rw [wrap_id (x := A - (l.length : Int)) (by omega) (by omega)]
  by_cases h0 : A - (l.length : Int) < 0
  · refine ⟨-1, fun h => absurd h (by decide), ?_⟩
    simp only [eq_true h0, if_true]
    exact Ev.now _
  · have key : ∀ n j, j + n = l.length → ∀ a : Int, 0 ≤ a → a ≤ 1048576 → ∃ r, (0 ≤ r → (qsum (l.drop j) : Int) ≤ a) ∧ Ev (fun k => laws_szQuestionS.l0 k l a (j : Int)) r := by
      intro n
      induction n with
      | zero =>
        intro j hj a ha0 ha1
        have hj' : j = l.length := by omega
        refine ⟨a, fun _ => by rw [hj', List.drop_length]; simpa [qsum] using ha0, Ev.succ ?_⟩
        have h1 : ((j : Int) < (l.length : Int)) = False := eq_false (by omega)
        simp only [laws_szQuestionS.l0, h1, if_false]
        exact Ev.now _
      | succ n ih =>
        intro j hj a ha0 ha1
        have hlt : j < l.length := by omega
        have h1 : ((j : Int) < (l.length : Int)) = True := eq_true (by omega)
        have hg : l.getD j z24 = l[j] := by rw [List.getD_eq_getElem?_getD, List.getElem?_eq_getElem hlt]; rfl
        have hy := hz l[j] (List.getElem_mem hlt)
        have hb : l[j].f1.length * 8 ≤ 140737488351232 := hy.2.1
        have hd : qsum (l.drop j) = l[j].f1.length + qsum (l.drop (j + 1)) := by rw [List.drop_eq_getElem_cons hlt]; rfl
        by_cases hc : a - (l[j].f1.length : Int) < 0
        · refine ⟨-1, fun h => absurd h (by decide), Ev.succ ?_⟩
          simp only [laws_szQuestionS.l0, h1, if_true, nat_nonneg, rdqL, hg, laws_szQuestion.f, laws_szIntS.f, wrap_id (x := a - (l[j].f1.length : Int)) (by omega) (by omega), eq_true hc, Option.bind_some, show ((-1 : Int) < 0) = True from eq_true (by decide)]
          exact Ev.now _
        · obtain ⟨r, h3, h4⟩ := ih (j + 1) (by omega) (a - (l[j].f1.length : Int)) (by omega) (by omega)
          refine ⟨r, fun h => by have := h3 h; rw [hd]; omega, Ev.succ ?_⟩
          simp only [laws_szQuestionS.l0, h1, if_true, nat_nonneg, rdqL, hg, laws_szQuestion.f, laws_szIntS.f, wrap_id (x := a - (l[j].f1.length : Int)) (by omega) (by omega), eq_false hc, if_false, Option.bind_some, wrap_succ (show j < 4611686018427387904 by omega)]
          exact h4
    obtain ⟨r, h3, h4⟩ := key l.length 0 (by omega) (A - (l.length : Int)) (by omega) (by omega)
    refine ⟨r, fun h => by have := h3 h; simp only [List.drop_zero] at this; omega, ?_⟩
    simp only [eq_false h0, if_false]
    exact h4
theorem szQuestionS_ev (l : List S24) (hl : l.length * 32 ≤ 140737488351232) (hz : ∀ y, y ∈ l → B24 y) : ∃ r, (0 ≤ r → l.length + qsum l ≤ 1048576) ∧ Ev (fun k => laws_szQuestionS.f k l 1048576) r := by
  obtain ⟨r, h1, h2⟩ := szQuestionA_ev l 1048576 (by decide) (by decide) hl hz
  exact ⟨r, fun h => by have := h1 h; omega, h2⟩
theorem qsz_map (l : List S24) (h : qsum l ≤ 1048576) : QSz (l.map qconv) := by
  intro q hq
  obtain ⟨x, hx, rfl⟩ := List.mem_map.1 hq
  have := qsum_mem hx
  show x.f1.length ≤ 1048576
  omega
theorem cloneI_eq (l : List Int) (hl : l.length < 17592186044416) : slices_Clone_int.f l = some l := by
  unfold slices_Clone_int.f
  simp only [Option.bind_some, List.length_nil, Nat.zero_add, List.nil_append, eq_true hl, if_true]
theorem exOwn_eq (x : Int) (l : List Int) (hl : l.length < 17592186044416) : spec_exOwn.f x l = some (x, l) := by
  unfold spec_exOwn.f spec_l1Own.f
  simp only [Option.bind_some, List.length_nil, Nat.zero_add, List.nil_append, eq_true hl, if_true]
/-- The questions that are not answered right, from place j on: those without an answer, or the others. -/
def selD (b : Bool) (l : List S28) (a : List Int) : Nat → Nat → List S28
  | 0, _ => []
  | d + 1, j => if (!rightAt l a j && (decide (a.getD j 0 < 0) == b)) = true then qat l j :: selD b l a d (j + 1) else selD b l a d (j + 1)
theorem selD_length (b : Bool) (l : List S28) (a : List Int) : ∀ d j, (selD b l a d j).length ≤ d
  | 0, _ => by simp [selD]
  | d + 1, j => by
    have := selD_length b l a d (j + 1)
    unfold selD
    split
    · simp only [List.length_cons]
      omega
    · omega
theorem implRepeat_l0 (l : List S28) (a : List Int) (hz : QSz l) (h : ansB l a = true) : ∀ d j (w n : List S28), j + d = l.length → w.length + n.length + d ≤ 1000 → Ev (fun k => impl_RepeatQuestions.l0 k a w n l (l.length : Int) (j : Int)) ((w ++ selD false l a d j) ++ (n ++ selD true l a d j), true) := by
  obtain ⟨h20, hla, h3⟩ := ansB_facts h
  intro d
  induction d with
  | zero =>
    intro j w n hj hn
    refine Ev.succ ?_
    have g1 : ((j : Int) < (l.length : Int)) = False := eq_false (by omega)
    have g2 : (w.length + n.length < 4398046511104) = True := eq_true (by omega)
    simp only [impl_RepeatQuestions.l0, g1, if_false, g2, if_true, selD, List.append_nil]
    exact Ev.now _
  | succ d ih =>
    intro j w n hj hn
    refine Ev.succ ?_
    have hlt : j < l.length := by omega
    have g1 : ((j : Int) < (l.length : Int)) = True := eq_true (by omega)
    have g2 : ((j : Int) < (a.length : Int)) = True := eq_true (by omega)
    have g3 : (w.length < 4398046511104) = True := eq_true (by omega)
    have g4 : (n.length < 4398046511104) = True := eq_true (by omega)
    have hq := qsz_at hz hlt
    simp only [impl_RepeatQuestions.l0, g1, g2, g3, g4, if_true, nat_nonneg, rdq, rdJ, wrap_succ (show j < 4611686018427387904 by omega), cloneI_eq _ (show (qat l j).f1.length < 17592186044416 by omega), isRight_eq l a h j hlt, Option.bind_some]
    by_cases h0 : a.getD j 0 < 0
    · have hra : rightAt l a j = false := by
        unfold rightAt
        rw [decide_eq_false (show ¬ (0 ≤ a.getD j 0) by omega), Bool.false_and]
      have e1 : selD false l a (d + 1) j = selD false l a d (j + 1) := by rw [selD, hra, decide_eq_true h0]; rfl
      have e2 : selD true l a (d + 1) j = qat l j :: selD true l a d (j + 1) := by rw [selD, hra, decide_eq_true h0]; rfl
      rw [e1, e2]
      simp only [eq_true h0, if_true]
      refine Ev.eq (ih (j + 1) w (n ++ [qat l j]) (by omega) (by rw [List.length_append]; simp; omega)) ?_
      simp
    · simp only [eq_false h0, if_false]
      rcases Bool.eq_false_or_eq_true (rightAt l a j) with hra | hra
      · have e1 : selD false l a (d + 1) j = selD false l a d (j + 1) := by rw [selD, hra]; rfl
        have e2 : selD true l a (d + 1) j = selD true l a d (j + 1) := by rw [selD, hra]; rfl
        rw [e1, e2]
        simp only [hra, if_true]
        exact ih (j + 1) w n (by omega) (by omega)
      · have e1 : selD false l a (d + 1) j = qat l j :: selD false l a d (j + 1) := by rw [selD, hra, decide_eq_false h0]; rfl
        have e2 : selD true l a (d + 1) j = selD true l a d (j + 1) := by rw [selD, hra, decide_eq_false h0]; rfl
        rw [e1, e2]
        simp only [hra, Bool.false_eq_true, if_false]
        refine Ev.eq (ih (j + 1) (w ++ [qat l j]) n (by omega) (by rw [List.length_append]; simp; omega)) ?_
        simp
theorem specRepeat_l1 (l : List S28) (a : List Int) (hz : QSz l) (h : ansB l a = true) (b : Bool) (bs : List Bool) (i : Int) (r : List S28 × Bool) : ∀ d j (acc : List S28), j + d = l.length → acc.length + d ≤ 1000 → Ev (fun k => spec_RepeatQuestions.l0 k l a (acc ++ selD b l a d j) bs (bs.length : Int) (wrap64 (i + 1))) r → Ev (fun k => spec_RepeatQuestions.l1 k l a acc b bs (bs.length : Int) i l (l.length : Int) (j : Int)) r := by
  obtain ⟨h20, hla, h3⟩ := ansB_facts h
  intro d
  induction d with
  | zero =>
    intro j acc hj hn hc
    refine Ev.succ ?_
    have g1 : ((j : Int) < (l.length : Int)) = False := eq_false (by omega)
    rw [selD, List.append_nil] at hc
    simp only [spec_RepeatQuestions.l1, g1, if_false]
    exact hc
  | succ d ih =>
    intro j acc hj hn hc
    refine Ev.succ ?_
    have hlt : j < l.length := by omega
    have g1 : ((j : Int) < (l.length : Int)) = True := eq_true (by omega)
    have g2 : ((j : Int) < (a.length : Int)) = True := eq_true (by omega)
    have g3 : (acc.length < 4398046511104) = True := eq_true (by omega)
    have hq := qsz_at hz hlt
    have hi := rightAt_iff l a h j hlt
    simp only [spec_RepeatQuestions.l1, g1, g2, g3, if_true, nat_nonneg, rdq, rdJ, wrap_succ (show j < 4611686018427387904 by omega), exOwn_eq _ _ (show (qat l j).f1.length < 17592186044416 by omega), Option.bind_some]
    refine Ev.bind (exRight_ev l j (by omega)) ?_
    rw [selD] at hc
    rcases Bool.eq_false_or_eq_true (rightAt l a j) with hra | hra
    · have hx := hi.2 hra
      rw [hra, Bool.not_true, Bool.false_and, if_neg (by decide)] at hc
      simp only [eq_true hx, if_true]
      exact ih (j + 1) acc (by omega) (by omega) hc
    · have hx : ¬ (a.getD j 0 = idxD (qat l j).f1 (qat l j).f0 (qat l j).f1.length 0) := fun e => by rw [hi.1 e] at hra; cases hra
      rw [hra, Bool.not_false, Bool.true_and] at hc
      simp only [eq_false hx, if_false]
      cases hb : (decide (a.getD j 0 < 0) == b) with
      | true =>
        rw [hb, if_pos rfl] at hc
        simp only [if_true]
        refine ih (j + 1) (acc ++ [qat l j]) (by omega) (by rw [List.length_append]; simp; omega) ?_
        rw [List.append_assoc]
        exact hc
      | false =>
        rw [hb, if_neg (by decide)] at hc
        simp only [Bool.false_eq_true, if_false]
        exact ih (j + 1) acc (by omega) (by omega) hc
def repeatR (l : List S28) (a : List Int) : List S28 × Bool := if ansB l a then (selD false l a l.length 0 ++ selD true l a l.length 0, true) else ([], false)
theorem implRepeat_ev (l : List S28) (a : List Int) (hl : l.length ≤ 1048576) (ha : a.length ≤ 1048576) (hz : QSz l) : Ev (fun k => impl_RepeatQuestions.f k l a) (repeatR l a) := by
  unfold impl_RepeatQuestions.f repeatR
  refine Ev.bind (areAnswered_ev l a hl ha hz) ?_
  rcases Bool.eq_false_or_eq_true (ansB l a) with h | h
  · obtain ⟨h20, _, _⟩ := ansB_facts h
    simp only [h, if_true]
    exact implRepeat_l0 l a hz h l.length 0 [] [] (by omega) (by simp; omega)
  · simp only [h, Bool.false_eq_true, if_false]
    exact Ev.now _
theorem specRepeat_ev (l : List S28) (a : List Int) (hl : l.length ≤ 1048576) (ha : a.length ≤ 1048576) (hz : QSz l) : Ev (fun k => spec_RepeatQuestions.f k l a) (repeatR l a) := by
  unfold spec_RepeatQuestions.f repeatR
  refine Ev.bind (exAnswers_ev l a hl ha hz) ?_
  rcases Bool.eq_false_or_eq_true (ansB l a) with h | h
  · obtain ⟨h20, _, _⟩ := ansB_facts h
    have hs := selD_length false l a l.length 0
    simp only [h, if_true, Option.bind_some]
    refine Ev.succ ?_
    have g1 : ((0 : Int) < (([false, true] : List Bool).length : Int)) = True := eq_true (by decide)
    have r0 : rdOf false [false, true] (0 : Int) = false := rfl
    simp only [spec_RepeatQuestions.l0, g1, if_true, Int.le_refl, r0]
    refine specRepeat_l1 l a hz h false [false, true] 0 _ l.length 0 [] (by omega) (by simp; omega) ?_
    rw [show wrap64 ((0 : Int) + 1) = 1 from by unfold wrap64; omega]
    refine Ev.succ ?_
    have g2 : ((1 : Int) < (([false, true] : List Bool).length : Int)) = True := eq_true (by decide)
    have r1 : rdOf false [false, true] (1 : Int) = true := rfl
    have g3 : ((0 : Int) ≤ 1) = True := eq_true (by decide)
    simp only [spec_RepeatQuestions.l0, g2, g3, if_true, r1]
    refine specRepeat_l1 l a hz h true [false, true] 1 _ l.length 0 _ (by omega) (by rw [List.nil_append]; omega) ?_
    rw [show wrap64 ((1 : Int) + 1) = 2 from by unfold wrap64; omega]
    refine Ev.succ ?_
    have g4 : ((2 : Int) < (([false, true] : List Bool).length : Int)) = False := eq_false (by decide)
    simp only [spec_RepeatQuestions.l0, g4, if_false, List.nil_append]
    exact Ev.now _
  · simp only [h, Bool.false_eq_true, if_false]
    exact Ev.now _
def markInts (a : Int) (n : Nat) : List Int := (List.range n).map fun i : Nat => a + (i : Int)
theorem markInts_length (a : Int) (n : Nat) : (markInts a n).length = n := by simp [markInts]
theorem markInts_succ (a : Int) (n : Nat) : markInts a (n + 1) = markInts a n ++ [a + n] := by simp [markInts, List.range_succ]
theorem markInts_get (a : Int) (n j : Nat) (h : j < n) : (markInts a n).getD j 0 = a + j := by
  simp [markInts, List.getD_eq_getElem?_getD, h]
theorem markIntS_ev (l : List Int) (a : Int) (h0 : 0 ≤ a) (ha : a + l.length < 4611686018427387904) : Ev (fun k => laws_markIntS.f k l a) (a + l.length, markInts a l.length) := by
  unfold laws_markIntS.f
  have key := Ev.upto (L := fun k j => laws_markIntS.l0 k (markInts a j ++ l.drop j) (a + j) (j : Int)) (r := (a + l.length, markInts a l.length)) (n := l.length)
    (by
      refine Ev.succ ?_
      have hlen : (markInts a l.length ++ l.drop l.length).length = l.length := by simp [markInts_length]
      simp only [laws_markIntS.l0, hlen, Int.lt_irrefl, if_false]
      simp only [List.drop_length, List.append_nil]
      exact Ev.now _)
    (by
      intro j hj h
      refine Ev.succ ?_
      have hlen : (markInts a j ++ l.drop j).length = l.length := by simp [markInts_length]; omega
      have h1 : ((j : Int) < (l.length : Int)) = True := eq_true (by omega)
      have e : (markInts a j ++ l.drop j).set j (a + j) = markInts a (j + 1) ++ l.drop (j + 1) := by
        rw [List.set_append_right _ _ (by simp [markInts_length]), markInts_length, Nat.sub_self, List.drop_eq_getElem_cons hj, List.set_cons_zero, markInts_succ, List.append_assoc]
        rfl
      simp only [laws_markIntS.l0, hlen, h1, if_true, nat_nonneg, Int.toNat_natCast, e, wrap_succ (show j < 4611686018427387904 by omega), wrap_id (x := a + (j : Int) + 1) (by omega) (by omega)]
      rw [show a + (j : Int) + 1 = a + ((j + 1 : Nat) : Int) by omega]
      exact h)
    0 (Nat.zero_le _)
  simpa [markInts] using key
theorem heldIntS_ev (n : Nat) (a : Int) (h0 : 0 ≤ a) (ha : a + n < 4611686018427387904) : Ev (fun k => laws_heldIntS.f k (markInts a n) a) (a + n) := by
  unfold laws_heldIntS.f
  have key := Ev.upto (L := fun k j => laws_heldIntS.l0 k (markInts a n) (a + j) (j : Int)) (r := a + (n : Int)) (n := n)
    (by
      refine Ev.succ ?_
      simp only [laws_heldIntS.l0, markInts_length, Int.lt_irrefl, if_false]
      exact Ev.now _)
    (by
      intro j hj h
      refine Ev.succ ?_
      have h1 : ((j : Int) < (n : Int)) = True := eq_true (by omega)
      simp only [laws_heldIntS.l0, markInts_length, h1, if_true, nat_nonneg, rdI, markInts_get a n j hj, wrap_succ (show j < 4611686018427387904 by omega), wrap_id (x := a + (j : Int) + 1) (by omega) (by omega)]
      rw [show a + (j : Int) + 1 = a + ((j + 1 : Nat) : Int) by omega]
      exact h)
    0 (Nat.zero_le _)
  simpa using key
theorem markEnd_le {β : Type} (c : β → Nat) (M : Nat) : ∀ (l : List β) (a : Int), (∀ x, x ∈ l → c x ≤ M) → markEnd c a l ≤ a + M * l.length
  | [], a, _ => by simp [markEnd]
  | x :: r, a, h => by
    have h1 := markEnd_le c M r (a + c x) (fun y hy => h y (List.mem_cons_of_mem _ hy))
    have h2 := h x (List.mem_cons_self ..)
    simp only [markEnd, List.length_cons]
    have : (M : Int) * ((r.length + 1 : Nat) : Int) = M * r.length + M := by rw [Int.natCast_add, Int.mul_add]; simp
    omega
def qmark (a : Int) (x : S28) : S28 := ⟨a, markInts (a + 1) x.f1.length⟩
def qcnt (x : S28) : Nat := 1 + x.f1.length
theorem qmarks_le (l : List S28) (hl : l.length ≤ 1048576) (hz : QSz l) : markEnd qcnt 1 l ≤ 2000000000000 := by
  have h := markEnd_le qcnt 1048577 l 1 (fun x hx => by have := hz x hx; unfold qcnt; omega)
  omega
theorem markQuestionS_ev (l : List S28) (a : Int) (hl : l.length ≤ 1048576) (h0 : 0 ≤ a) (ha : markEnd qcnt a l ≤ 2000000000000) : Ev (fun k => laws_markQuestionS.f k l a) (markEnd qcnt a l, markAll qmark qcnt a l) := by
  unfold laws_markQuestionS.f
  refine Ev.mark qmark qcnt z28 2000000000000 l.length (fun k s a j => laws_markQuestionS.l0 k s a j) ?_ ?_ l a rfl h0 ha
  · intro s j a r hj hs h0 h1 h
    refine Ev.succ ?_
    have h1' : a + ((1 + (s.getD j z28).f1.length : Nat) : Int) ≤ 2000000000000 := h1
    have e : (rd_T28 s (j : Int)) = s.getD j z28 := rdq s j
    have h3 : ((j : Int) < (s.length : Int)) = True := eq_true (by omega)
    have e4 : wrap64 ((j : Int) + 1) = ((j + 1 : Nat) : Int) := wrap_succ (by omega)
    simp only [laws_markQuestionS.l0, h3, if_true, nat_nonneg, e, Int.toNat_natCast, e4, wrap_id (x := a + 1) (by omega) (by omega)]
    refine Ev.bind (markIntS_ev _ (a + 1) (by omega) (by omega)) ?_
    have e3 : a + 1 + ((s.getD j z28).f1.length : Int) = a + ((qcnt (s.getD j z28) : Nat) : Int) := by unfold qcnt; omega
    rw [e3]
    exact h
  · intro s a hs
    refine Ev.succ ?_
    simp only [laws_markQuestionS.l0, hs, Int.lt_irrefl, if_false]
    exact Ev.now _
theorem heldQuestionS_ev (l : List S28) (a : Int) (hl : l.length ≤ 1048576) (h0 : 0 ≤ a) (ha : markEnd qcnt a l ≤ 2000000000000) : Ev (fun k => laws_heldQuestionS.f k (markAll qmark qcnt a l) a) (markEnd qcnt a l) := by
  unfold laws_heldQuestionS.f
  refine Ev.held qmark qcnt z28 2000000000000 l.length (fun k s a j => laws_heldQuestionS.l0 k s a j) ?_ ?_ l a rfl h0 ha
  · intro s j a y r hj hs hy h0 h1 h
    refine Ev.succ ?_
    have h1' : a + ((1 + y.f1.length : Nat) : Int) ≤ 2000000000000 := h1
    have e : (rd_T28 s (j : Int)) = qmark a y := (rdq s j).trans hy
    have h3 : ((j : Int) < (s.length : Int)) = True := eq_true (by omega)
    have e4 : wrap64 ((j : Int) + 1) = ((j + 1 : Nat) : Int) := wrap_succ (by omega)
    simp only [laws_heldQuestionS.l0, h3, if_true, nat_nonneg, e, qmark, e4, wrap_id (x := a + 1) (by omega) (by omega)]
    refine Ev.bind (heldIntS_ev _ (a + 1) (by omega) (by omega)) ?_
    have e3 : a + 1 + (y.f1.length : Int) = a + ((qcnt y : Nat) : Int) := by unfold qcnt; omega
    simp only [show (a + 1 + (y.f1.length : Int) < 0) = False from eq_false (by omega), if_false]
    rw [e3]
    exact h
  · intro s a hs
    refine Ev.succ ?_
    simp only [laws_heldQuestionS.l0, hs, Int.lt_irrefl, if_false]
    exact Ev.now _
end Go.Proofs.Ytnafjfdalapegaa.Pure
namespace Go.Proofs.Ytnafjfdalapegaa.Pure
open Go.RowKit Go.Proofs.Ytnafjfdalapegaa.Q Go.Proofs.YtnafjfdalapegaaW.PrintWords Go.Proofs.YtnafjfdalapegaaW.PrintLast

theorem selD_mem (b : Bool) (l : List S28) (a : List Int) : ∀ d j, j + d ≤ l.length → ∀ x, x ∈ selD b l a d j → x ∈ l
  | 0, j, _, x, hx => by simp [selD] at hx
  | d + 1, j, hj, x, hx => by
    have hq : qat l j ∈ l := by rw [qat_get l j (by omega)]; exact List.getElem_mem _
    unfold selD at hx
    have ih := selD_mem b l a d (j + 1) (by omega)
    split at hx
    · rcases List.mem_cons.1 hx with rfl | hx
      · exact hq
      · exact ih x hx
    · exact ih x hx
theorem repeat_facts (l : List S28) (a : List Int) (hz : QSz l) : (repeatR l a).1.length ≤ 1000 ∧ QSz (repeatR l a).1 := by
  unfold repeatR
  by_cases h : ansB l a = true
  · simp only [h, if_true]
    have h20 := (ansB_facts h).1
    have h1 := selD_length false l a l.length 0
    have h2 := selD_length true l a l.length 0
    refine ⟨by rw [List.length_append]; omega, fun q hq => ?_⟩
    rcases List.mem_append.1 hq with hq | hq
    · exact hz q (selD_mem _ _ _ _ _ (by omega) _ hq)
    · exact hz q (selD_mem _ _ _ _ _ (by omega) _ hq)
  · simp only [h, Bool.false_eq_true, if_false]
    exact ⟨by simp, fun q hq => by cases hq⟩
theorem FnExactRepeatQuestions : laws_FnExactRepeatQuestions.Pure := by
  intro l a h hz ha _
  refine Ev.rounds ?_
  unfold laws_FnExactRepeatQuestions.f
  by_cases h00 : (a.length : Int) > 1048576
  · simp only [eq_true h00, if_true]
    exact Ev.now _
  simp only [eq_false h00, if_false]
  obtain ⟨r, hb, hr⟩ := szQuestionS_ev l h hz
  refine Ev.bind hr ?_
  by_cases h0 : r < 0
  · simp only [eq_true h0, if_true]
    exact Ev.now _
  simp only [eq_false h0, if_false]
  have hb' := hb (by omega)
  have hk : (l.map qconv).length ≤ 1048576 := by rw [List.length_map]; omega
  have hs := qsz_map l (by omega)
  have hsp := specRepeat_ev (l.map qconv) a hk (by omega) hs
  have hi := implRepeat_ev (l.map qconv) a hk (by omega) hs
  obtain ⟨hW, hWs⟩ := repeat_facts (l.map qconv) a hs
  generalize repeatR (l.map qconv) a = W at hsp hi hW hWs
  refine Ev.bind (toQuestionS_ev l h hz) ?_
  refine Ev.bind (toIntS_ev a ha) ?_
  refine Ev.bind hsp ?_
  refine Ev.bind (toQuestionS_ev l h hz) ?_
  refine Ev.bind (toIntS_ev a ha) ?_
  refine Ev.bind hi ?_
  refine Ev.bind (eqQuestionS_ev _ (by omega) hWs) ?_
  simp only [if_true]
  refine Ev.bind (toQuestionS_ev l h hz) ?_
  refine Ev.bind (eqQuestionS_ev _ (by omega) hs) ?_
  simp only [if_true]
  refine Ev.bind (toIntS_ev a ha) ?_
  refine Ev.bind (eqIntS_ev _ (by omega)) ?_
  simp only [if_true]
  have hm := qmarks_le (l.map qconv) hk hs
  have hg := markEnd_ge qcnt (l.map qconv) 1
  refine Ev.bind (markQuestionS_ev _ 1 (by omega) (by decide) hm) ?_
  refine Ev.bind (markIntS_ev a _ (by omega) (by omega)) ?_
  simp only [show (markEnd qcnt 1 (l.map qconv) + (a.length : Int) < 0) = False from eq_false (by omega), if_false]
  refine Ev.bind (eqQuestionS_ev _ (by omega) hWs) ?_
  simp only [if_true]
  have hm2 := qmarks_le W.1 (by omega) hWs
  have hg2 := markEnd_ge qcnt W.1 1
  refine Ev.bind (markQuestionS_ev _ 1 (by omega) (by decide) hm2) ?_
  refine Ev.bind (heldQuestionS_ev _ 1 (by omega) (by decide) hm2) ?_
  simp only [show (markEnd qcnt 1 W.1 < 0) = False from eq_false (by omega), if_false, if_true]
  refine Ev.bind (toQuestionS_ev l h hz) ?_
  refine Ev.bind (toIntS_ev a ha) ?_
  refine Ev.bind hi ?_
  refine Ev.bind (eqQuestionS_ev _ (by omega) hWs) ?_
  simp only [if_true]
  refine Ev.bind (heldQuestionS_ev _ 1 (by omega) (by decide) hm2) ?_
  simp only [show (markEnd qcnt 1 W.1 < 0) = False from eq_false (by omega), if_false, if_true]
  exact Ev.now _
end Go.Proofs.Ytnafjfdalapegaa.Pure
