/- For all words, the program's CycleOf returns what the reference's CycleOf returns, anew and of its own, and leaves the list alone. No condition. -/
import Derived.Test.YthcedgbjpkgoeaaQBImplCycleFrom
import Derived.Test.YthcedgbjpkgoeaaQBLawsSzIntS
import Derived.Test.YthcedgbjpkgoeaaQBSlicesCloneInt
import Derived.Test.YthcedgbjpkgoeaaQBSpecL1Rising
import Derived.Test.YthcedgbjpkgoeaaQBSpecLeOrder
import Derived.Test.YthcedgbjpkgoeaaQBSpecLeReady
import Derived.Test.YthcedgbjpkgoeaaQBSpecLeShortest
import Derived.Test.YthcedgbjpkgoeaaQBounds
import Derived.Test.YthcedgbjpkgoeaaQImplAllWithin
import Derived.Test.YthcedgbjpkgoeaaQImplAreWords
import Derived.Test.YthcedgbjpkgoeaaQLawsFnExactCycleOf
import Derived.Test.YthcedgbjpkgoeaaQSlicesContainsFuncImplWord
import Derived.Test.YthcedgbjpkgoeaaQSpecLeBest
import Derived.Test.YthcedgbjpkgoeaaQSpecLeCycle
import Derived.Test.YthcedgbjpkgoeaaQSpecLeGood
import Derived.Test.YthcedgbjpkgoeaaQ0
import Derived.Test.YthcedgbjpkgoeaaWWords
import Derived.Lib.SlicesCompact
import Derived.Lib.Bytealg
import Derived.Test.YthcedgbjpkgoeaaGIdx
set_option linter.unusedVariables false
set_option linter.unusedSimpArgs false
namespace Go.Proofs.Ythcedgbjpkgoeaa.Pure
open Go.RowKit Go.Proofs.Ythcedgbjpkgoeaa.Q Go.Proofs.YthcedgbjpkgoeaaW.PrintLast Go.Proofs.YthcedgbjpkgoeaaW.PrintWords
theorem Ev.succ {α : Type} {g : Nat → Option α} {r : α} (h : Ev (fun k => g (k + 1)) r) : Ev g r := Ev.step (fun _ => rfl) h
theorem Ev.k {α : Type} {g : Nat → Option α} {o : Option α} {r : α} (hg : ∀ k, g k = o) (h : o = some r) : Ev g r := ⟨0, fun k _ => (hg k).trans h⟩
theorem Ev.eq {α : Type} {g : Nat → Option α} {r r' : α} (h : Ev g r) (e : r = r') : Ev g r' := e ▸ h
/-- From round i up to round n. -/
theorem Ev.upto {β : Type} {L : Nat → Nat → Option β} {r : β} {n : Nat} (hend : Ev (fun k => L k n) r)
    (hstep : ∀ j, j < n → Ev (fun k => L k (j + 1)) r → Ev (fun k => L k j) r) : ∀ i, i ≤ n → Ev (fun k => L k i) r := by
  intro i hi
  obtain ⟨d, hd⟩ : ∃ d, n = i + d := ⟨n - i, by omega⟩
  induction d generalizing i with
  | zero => simp at hd; subst hd; exact hend
  | succ d ih => exact hstep i (by omega) (ih (i + 1) (by omega) (by omega))
/-- A loop that ends early where P fails. -/
theorem Ev.all {β : Type} {L : Nat → Nat → Option β} {P : Nat → Bool} {n : Nat} {a b : β} (hend : Ev (fun k => L k n) a)
    (hyes : ∀ j r, j < n → P j = true → Ev (fun k => L k (j + 1)) r → Ev (fun k => L k j) r) (hno : ∀ j, j < n → P j = false → Ev (fun k => L k j) b) :
    ∀ i, i ≤ n → Ev (fun k => L k i) (if (List.range' i (n - i)).all P then a else b) := by
  intro i hi
  obtain ⟨d, hd⟩ : ∃ d, n = i + d := ⟨n - i, by omega⟩
  induction d generalizing i with
  | zero => simp at hd; subst hd; simpa using hend
  | succ d ih =>
    have h1 : n - i = (n - (i + 1)) + 1 := by omega
    rw [h1, List.range'_succ]
    simp only [List.all_cons]
    rcases Bool.eq_false_or_eq_true (P i) with hP | hP
    · simp only [hP, Bool.true_and]
      exact hyes i _ (by omega) hP (ih (i + 1) (by omega) (by omega))
    · simpa [hP] using hno i (by omega) hP
theorem Ev.all0 {β : Type} {L : Nat → Nat → Option β} {P : Nat → Bool} {n : Nat} {a b : β} (hend : Ev (fun k => L k n) a)
    (hyes : ∀ j r, j < n → P j = true → Ev (fun k => L k (j + 1)) r → Ev (fun k => L k j) r) (hno : ∀ j, j < n → P j = false → Ev (fun k => L k j) b) :
    Ev (fun k => L k 0) (if (List.range n).all P then a else b) := by
  have := Ev.all hend hyes hno 0 (Nat.zero_le _)
  rwa [Nat.sub_zero, ← List.range_eq_range'] at this

theorem wrap_id {x : Int} (h0 : -9223372036854775808 ≤ x) (h1 : x ≤ 9223372036854775807) : wrap64 x = x := by
  unfold wrap64
  omega
theorem wrap_succ {n : Nat} (h : n < 4611686018427387904) : wrap64 ((n : Int) + 1) = ((n + 1 : Nat) : Int) := by
  rw [wrap_id (by omega) (by omega)]
  omega
theorem wrap_pred {n : Nat} (h0 : 0 < n) (h : n < 4611686018427387904) : wrap64 ((n : Int) - 1) = ((n - 1 : Nat) : Int) := by
  rw [wrap_id (by omega) (by omega)]
  omega
theorem nat_nonneg (n : Nat) : (0 ≤ (n : Int)) = True := eq_true (Int.natCast_nonneg n)
/-- A copy, element by element, into a row that was made. -/
theorem Ev.copy {α β : Type} (f : α → β) (l : List α) (za : α) (zb : β) (L : Nat → List β → Int → Option (List β))
    (hstep : ∀ (j : Nat) (s r : List β), j < l.length → s.length = l.length → Ev (fun k => L k (s.set j (f (l.getD j za))) ((j + 1 : Nat) : Int)) r → Ev (fun k => L k s (j : Int)) r)
    (hend : ∀ s : List β, s.length = l.length → Ev (fun k => L k s (l.length : Int)) s) : Ev (fun k => L k (List.replicate l.length zb) 0) (l.map f) := by
  have key := Ev.upto (L := fun k j => L k ((l.map f).take j ++ List.replicate (l.length - j) zb) (j : Int)) (r := l.map f) (n := l.length)
    (by
      have h := hend ((l.map f).take l.length ++ List.replicate (l.length - l.length) zb) (by simp)
      refine Ev.eq h ?_
      rw [Nat.sub_self, List.replicate_zero, List.append_nil, List.take_of_length_le (by simp)])
    (by
      intro j hj h
      have hlen : ((l.map f).take j ++ List.replicate (l.length - j) zb).length = l.length := by simp; omega
      refine hstep j _ _ hj hlen ?_
      have e : ((l.map f).take j ++ List.replicate (l.length - j) zb).set j (f (l.getD j za)) = (l.map f).take (j + 1) ++ List.replicate (l.length - (j + 1)) zb := by
        have e1 : l.length - j = (l.length - (j + 1)) + 1 := by omega
        rw [e1, List.replicate_succ, List.set_append_right _ _ (by simp; omega)]
        have e2 : j - ((l.map f).take j).length = 0 := by simp; omega
        rw [e2, List.set_cons_zero, List.take_succ_eq_append_getElem (by simpa using hj)]
        simp [List.getD_eq_getElem?_getD, List.getElem?_eq_getElem hj]
      rw [e]
      exact h)
    0 (Nat.zero_le _)
  simpa using key
/-- The marks of a row: m a x is x marked from a on, c x how many marks that takes. -/
def markAll {β : Type} (m : Int → β → β) (c : β → Nat) : Int → List β → List β
  | _, [] => []
  | a, x :: r => m a x :: markAll m c (a + c x) r
def markEnd {β : Type} (c : β → Nat) : Int → List β → Int
  | a, [] => a
  | a, x :: r => markEnd c (a + c x) r
theorem markEnd_ge {β : Type} (c : β → Nat) : ∀ (l : List β) (a : Int), a ≤ markEnd c a l
  | [], a => Int.le_refl _
  | x :: r, a => by have := markEnd_ge c r (a + c x); simp only [markEnd]; omega
theorem Ev.mark {β : Type} (m : Int → β → β) (c : β → Nat) (z : β) (B : Int) (N : Nat) (L : Nat → List β → Int → Int → Option (Int × List β))
    (hstep : ∀ (s : List β) (j : Nat) (a : Int) (r : Int × List β), j < N → s.length = N → 0 ≤ a → a + c (s.getD j z) ≤ B → Ev (fun k => L k (s.set j (m a (s.getD j z))) (a + c (s.getD j z)) ((j + 1 : Nat) : Int)) r → Ev (fun k => L k s a (j : Int)) r)
    (hend : ∀ (s : List β) (a : Int), s.length = N → Ev (fun k => L k s a (N : Int)) (a, s)) :
    ∀ (l : List β) (a : Int), l.length = N → 0 ≤ a → markEnd c a l ≤ B → Ev (fun k => L k l a 0) (markEnd c a l, markAll m c a l) := by
  have key : ∀ (l d : List β) (a : Int), d.length + l.length = N → 0 ≤ a → markEnd c a l ≤ B → Ev (fun k => L k (d ++ l) a (d.length : Int)) (markEnd c a l, d ++ markAll m c a l) := by
    intro l
    induction l with
    | nil =>
      intro d a hN _ _
      simp only [List.append_nil, markEnd, markAll]
      rw [List.length_nil, Nat.add_zero] at hN
      rw [hN]
      exact hend d a hN
    | cons x r ih =>
      intro d a hN h0 h1
      rw [List.length_cons] at hN
      have hx : (d ++ x :: r).getD d.length z = x := by simp [List.getD_eq_getElem?_getD]
      have hB := markEnd_ge c r (a + c x)
      simp only [markEnd] at h1
      refine hstep _ _ _ _ (by omega) (by simp; omega) h0 (by rw [hx]; omega) ?_
      rw [hx]
      have e : (d ++ x :: r).set d.length (m a x) = (d ++ [m a x]) ++ r := by
        rw [List.set_append_right _ _ (Nat.le_refl _), Nat.sub_self, List.set_cons_zero, List.append_assoc]
        rfl
      have h2 := ih (d ++ [m a x]) (a + c x) (by simp; omega) (by omega) h1
      rw [e]
      simpa [markAll, markEnd] using h2
  intro l a hN h0 h1
  simpa using key l [] a (by simpa using hN) h0 h1
def inB (a b c : Int) : Bool := decide (b ≤ a ∧ a ≤ c)
theorem l1In_eq (a b c : Int) : spec_l1In.f a b c = some (inB a b c) := by
  unfold spec_l1In.f inB
  split <;> simp <;> omega
theorem within_eq (a b c : Int) : impl_within.f a b c = some (inB a b c) := by
  unfold impl_within.f inB
  split <;> simp <;> omega
theorem rdJ (l : List Int) (j : Nat) : rd l (j : Int) = l.getD j 0 := by simp [rd]
/-- The first place of x among d elements from j on, or -1. -/
def idxD (l : List Int) (x : Int) : Nat → Nat → Int
  | 0, _ => -1
  | d + 1, j => if l.getD j 0 = x then (j : Int) else idxD l x d (j + 1)
theorem idxD_nonneg (l : List Int) (x : Int) : ∀ d j, (0 ≤ idxD l x d j) ↔ ∃ i, j ≤ i ∧ i < j + d ∧ l.getD i 0 = x := by
  intro d
  induction d with
  | zero => intro j; simp only [idxD]; constructor <;> intro h <;> omega
  | succ d ih =>
    intro j
    rw [idxD]
    by_cases h : l.getD j 0 = x
    · rw [if_pos h]
      exact ⟨fun _ => ⟨j, by omega, by omega, h⟩, fun _ => by omega⟩
    · rw [if_neg h, ih]
      constructor
      · rintro ⟨i, h1, h2, h3⟩
        exact ⟨i, by omega, by omega, h3⟩
      · rintro ⟨i, h1, h2, h3⟩
        have : i ≠ j := fun e => h (e ▸ h3)
        exact ⟨i, by omega, by omega, h3⟩
theorem getD_mem_iff (l : List Int) (x : Int) : (∃ i, 0 ≤ i ∧ i < 0 + l.length ∧ l.getD i 0 = x) ↔ x ∈ l := by
  rw [List.mem_iff_getElem]
  constructor
  · rintro ⟨i, _, h2, h3⟩
    refine ⟨i, by omega, ?_⟩
    rw [← h3, List.getD_eq_getElem?_getD, List.getElem?_eq_getElem (by omega)]
    rfl
  · rintro ⟨i, h2, h3⟩
    refine ⟨i, by omega, by omega, ?_⟩
    rw [List.getD_eq_getElem?_getD, List.getElem?_eq_getElem h2]
    exact h3
theorem idxD_mem (l : List Int) (x : Int) : decide (idxD l x l.length 0 ≥ 0) = decide (x ∈ l) := by
  rw [decide_eq_decide]
  exact (idxD_nonneg l x l.length 0).trans (getD_mem_iff l x)
theorem index_l0 (l : List Int) (x : Int) (hl : l.length < 4611686018427387904) : ∀ d j, j + d = l.length → Ev (fun k => slices_Index_int.l0 k l x (l.length : Int) (j : Int)) (idxD l x d j) := by
  intro d
  induction d with
  | zero =>
    intro j hj
    refine Ev.succ ?_
    have h1 : ((j : Int) < (l.length : Int)) = False := eq_false (by omega)
    simp only [slices_Index_int.l0, h1, if_false, idxD]
    exact Ev.now _
  | succ d ih =>
    intro j hj
    refine Ev.succ ?_
    have h1 : ((j : Int) < (l.length : Int)) = True := eq_true (by omega)
    simp only [slices_Index_int.l0, h1, if_true, nat_nonneg, rdJ, wrap_succ (show j < 4611686018427387904 by omega), idxD]
    by_cases h : l.getD j 0 = x
    · simp only [eq_true h, eq_true h.symm, if_true]
      exact Ev.now _
    · simp only [eq_false h, eq_false (fun e : x = l.getD j 0 => h e.symm), if_false]
      exact ih (j + 1) (by omega)
theorem index_ev (l : List Int) (x : Int) (hl : l.length < 4611686018427387904) : Ev (fun k => slices_Index_int.f k l x) (idxD l x l.length 0) := by
  unfold slices_Index_int.f
  exact index_l0 l x hl l.length 0 (by omega)
theorem contains_ev (l : List Int) (x : Int) (hl : l.length < 4611686018427387904) : Ev (fun k => slices_Contains_int.f k l x) (decide (x ∈ l)) := by
  unfold slices_Contains_int.f
  refine Ev.bind (index_ev l x hl) ?_
  rw [idxD_mem]
  exact Ev.now _
theorem l1Has_l0 (l : List Int) (x : Int) (hl : l.length < 4611686018427387904) : ∀ d j, j + d = l.length → Ev (fun k => spec_l1Has.l0 k x l (l.length : Int) (j : Int)) (decide (idxD l x d j ≥ 0)) := by
  intro d
  induction d with
  | zero =>
    intro j hj
    refine Ev.succ ?_
    have h1 : ((j : Int) < (l.length : Int)) = False := eq_false (by omega)
    simp only [spec_l1Has.l0, h1, if_false, idxD]
    exact Ev.now _
  | succ d ih =>
    intro j hj
    refine Ev.succ ?_
    have h1 : ((j : Int) < (l.length : Int)) = True := eq_true (by omega)
    simp only [spec_l1Has.l0, h1, if_true, nat_nonneg, rdJ, wrap_succ (show j < 4611686018427387904 by omega), idxD]
    by_cases h : l.getD j 0 = x
    · simp only [eq_true h, if_true]
      refine Ev.eq (Ev.now _) ?_
      simp
    · simp only [eq_false h, if_false]
      exact ih (j + 1) (by omega)
theorem l1Has_ev (l : List Int) (x : Int) (hl : l.length < 4611686018427387904) : Ev (fun k => spec_l1Has.f k l x) (decide (x ∈ l)) := by
  unfold spec_l1Has.f
  rw [← idxD_mem]
  exact l1Has_l0 l x hl l.length 0 (by omega)
theorem pairs_lt (zs : List Int) (h : ∀ j, 0 < j → (hj : j < zs.length) → zs[j - 1]'(by omega) < zs[j]) : ∀ (d i : Nat) (hi : i + d + 1 < zs.length), zs[i]'(by omega) < zs[i + d + 1] := by
  intro d
  induction d with
  | zero => intro i hi; exact h (i + 1) (by omega) hi
  | succ d ih =>
    intro i hi
    have h1 := ih i (by omega)
    have h2 := h (i + d + 1 + 1) (by omega) hi
    have h3 : zs[i + d + 1 + 1 - 1]'(by omega) = zs[i + d + 1]'(by omega) := by congr 1
    have h4 : zs[i + (d + 1) + 1] = zs[i + d + 1 + 1] := by congr 1
    omega
theorem compact_len_iff (zs : List Int) (hs : zs.Pairwise (· ≤ ·)) : (Lib.compact zs).length = zs.length ↔ zs.Nodup := by
  have e : (Lib.compact zs).length = ((List.range zs.length).filter (Lib.keeps zs.toArray)).length := by simp [Lib.compact, Lib.compactUpTo]
  rw [e]
  have e2 : ((List.range zs.length).filter (Lib.keeps zs.toArray)).length = zs.length ↔ ∀ j, j < zs.length → Lib.keeps zs.toArray j = true := by
    constructor
    · intro h j hj
      have h' : ((List.range zs.length).filter (Lib.keeps zs.toArray)).length = (List.range zs.length).length := by rw [h, List.length_range]
      exact List.length_filter_eq_length_iff.1 h' j (List.mem_range.2 hj)
    · intro h
      have := List.length_filter_eq_length_iff.2 (fun j hj => h j (List.mem_range.1 hj))
      rw [this, List.length_range]
  rw [e2]
  have hle := List.pairwise_iff_getElem.1 hs
  constructor
  · intro h
    have hlt : ∀ j, 0 < j → (hj : j < zs.length) → zs[j - 1]'(by omega) < zs[j] := by
      intro j h0 hj
      have h1 := hle (j - 1) j (by omega) hj (by omega)
      have h2 := h j hj
      have h3 : zs[j - 1]'(by omega) ≠ zs[j] := by
        intro e3
        have := Lib.keeps_neg (d := zs.toArray) h0 (by simp [getElem!_pos, show j < zs.length by omega, show j - 1 < zs.length by omega, e3])
        rw [this] at h2
        cases h2
      omega
    rw [List.Nodup, List.pairwise_iff_getElem]
    intro i j hi hj hij
    have := pairs_lt zs hlt (j - i - 1) i (by omega)
    have e4 : zs[i + (j - i - 1) + 1]'(by omega) = zs[j] := by congr 1; omega
    omega
  · intro h j hj
    rw [List.Nodup, List.pairwise_iff_getElem] at h
    by_cases h0 : j = 0
    · subst h0; exact Lib.keeps_lt_one _ 0 (by omega)
    · refine Lib.keeps_pos ?_
      have := h (j - 1) j (by omega) hj (by omega)
      simp [getElem!_pos, show j < zs.length by omega, show j - 1 < zs.length by omega]
      exact fun e => this e.symm
theorem distinct_len (l : List Int) (hl : l.length < 17592186044416) : ∃ r, impl_distinct_int.f l = some r ∧ (r.length = l.length ↔ l.Nodup) := by
  unfold impl_distinct_int.f slices_Clone_int.f
  simp only [Option.bind_some, List.length_nil, Nat.zero_add, List.nil_append, eq_true hl, if_true]
  refine ⟨_, rfl, ?_⟩
  have hp : (impl_distinct_int.sorted l).Perm l := List.mergeSort_perm _ _
  have hs : (impl_distinct_int.sorted l).Pairwise (· ≤ ·) := by
    have := List.pairwise_mergeSort (le := fun x y : Int => decide (x ≤ y)) (by intro a b c; simp; omega) (by intro a b; simp; omega) l
    exact this.imp (fun h => of_decide_eq_true h)
  rw [← hp.length_eq, compact_len_iff _ hs]
  exact hp.nodup_iff
def capAt (s : ByteArray) (j : Nat) : Bool := decide (65 ≤ bt s j ∧ bt s j ≤ 90)
def glossB (s : ByteArray) : Bool := inB s.size 1 8 && (List.range s.size).all (capAt s)
def caps : ByteArray := ⟨#[65, 66, 67, 68, 69, 70, 71, 72, 73, 74, 75, 76, 77, 78, 79, 80, 81, 82, 83, 84, 85, 86, 87, 88, 89, 90]⟩
theorem caps_all : ((List.range 256).all fun n => decide (Lib.indexByte caps.data.toList n.toUInt8 < 0) == !(decide (65 ≤ n ∧ n ≤ 90))) = true := by decide +kernel
theorem caps_index (b : Int) (h0 : 0 ≤ b) (h1 : b ≤ 255) : (Lib.indexByte caps.data.toList b.toNat.toUInt8 < 0) ↔ ¬ (65 ≤ b ∧ b ≤ 90) := by
  have h := List.all_eq_true.1 caps_all b.toNat (List.mem_range.2 (by omega))
  simp only [beq_iff_eq] at h
  by_cases hc : 65 ≤ b ∧ b ≤ 90
  · have h2 : decide (65 ≤ b.toNat ∧ b.toNat ≤ 90) = true := decide_eq_true (by omega)
    rw [h2] at h
    exact ⟨fun h3 => absurd h3 (of_decide_eq_false h), fun h3 => absurd hc h3⟩
  · have h2 : decide (65 ≤ b.toNat ∧ b.toNat ≤ 90) = false := decide_eq_false (by omega)
    rw [h2] at h
    exact ⟨fun _ => hc, fun _ => of_decide_eq_true h⟩
theorem hasOnly_ev (s : ByteArray) (hs : s.size < 4611686018427387904) : Ev (fun k => impl_hasOnly.f k s caps) ((List.range s.size).all (capAt s)) := by
  unfold impl_hasOnly.f
  refine Ev.eq (Ev.all0 (L := fun k j => impl_hasOnly.l0 k s caps (s.size : Int) (j : Int)) (P := capAt s) (n := s.size) (a := true) (b := false) ?_ ?_ ?_) (by split <;> simp_all)
  · refine Ev.succ ?_
    simp only [impl_hasOnly.l0, Int.lt_irrefl, if_false]
    exact Ev.now _
  · intro j r hj hP h
    refine Ev.succ ?_
    have h1 : ((j : Int) < (s.size : Int)) = True := eq_true (by omega)
    have hb := bt_range s (j : Int)
    have h2 : (Lib.indexByte caps.data.toList (bt s (j : Int)).toNat.toUInt8 < 0) = False := eq_false (fun hc => (caps_index _ hb.1 hb.2).1 hc (of_decide_eq_true hP))
    simp only [impl_hasOnly.l0, strings_IndexByte.f, Option.bind_some, h1, if_true, nat_nonneg, h2, if_false, wrap_succ (show j < 4611686018427387904 by omega)]
    exact h
  · intro j hj hP
    refine Ev.succ ?_
    have h1 : ((j : Int) < (s.size : Int)) = True := eq_true (by omega)
    have hb := bt_range s (j : Int)
    have h2 : (Lib.indexByte caps.data.toList (bt s (j : Int)).toNat.toUInt8 < 0) = True := eq_true ((caps_index _ hb.1 hb.2).2 (of_decide_eq_false hP))
    simp only [impl_hasOnly.l0, strings_IndexByte.f, Option.bind_some, h1, if_true, nat_nonneg, h2]
    exact Ev.now _
theorem isGloss_ev (s : ByteArray) (hs : s.size < 4611686018427387904) : Ev (fun k => impl_IsGloss.f k s) (glossB s) := by
  unfold impl_IsGloss.f impl_isWordOf.f glossB
  refine Ev.bind (a := inB s.size 1 8 && (List.range s.size).all (capAt s)) ?_ (Ev.now _)
  simp only [within_eq, Option.bind_some]
  rcases Bool.eq_false_or_eq_true (inB s.size 1 8) with h | h
  · simp only [h, if_true, Bool.true_and]
    exact Ev.bind (hasOnly_ev s hs) (Ev.now _)
  · simp only [h]
    exact Ev.now _
theorem enGloss_ev (s : ByteArray) (hs : s.size < 4611686018427387904) : Ev (fun k => spec_enGloss.f k s) (glossB s) := by
  unfold spec_enGloss.f
  refine Ev.eq (Ev.all0 (L := fun k j => spec_enGloss.l0 k s (j : Int)) (P := capAt s) (n := s.size) (a := inB s.size 1 8) (b := false) ?_ ?_ ?_) (by unfold glossB; split <;> simp_all)
  · refine Ev.succ ?_
    simp only [spec_enGloss.l0, Int.lt_irrefl, if_false, l1In_eq, Option.bind_some]
    exact Ev.now _
  · intro j r hj hP h
    refine Ev.succ ?_
    have h1 : ((j : Int) < (s.size : Int)) = True := eq_true (by omega)
    have hP' := of_decide_eq_true hP
    simp only [spec_enGloss.l0, h1, if_true, nat_nonneg, show (bt s (j : Int) < 65) = False from eq_false (by omega), show (bt s (j : Int) > 90) = False from eq_false (by omega), if_false, wrap_succ (show j < 4611686018427387904 by omega)]
    exact h
  · intro j hj hP
    refine Ev.succ ?_
    have h1 : ((j : Int) < (s.size : Int)) = True := eq_true (by omega)
    have hP' := of_decide_eq_false hP
    simp only [spec_enGloss.l0, h1, if_true, nat_nonneg]
    by_cases h2 : bt s (j : Int) < 65
    · simp only [eq_true h2, if_true]
      exact Ev.now _
    · simp only [eq_false h2, if_false, show (bt s (j : Int) > 90) = True from eq_true (by omega), if_true]
      exact Ev.now _
theorem rdI (l : List Int) (j : Nat) : rd l (j : Int) = l.getD j 0 := by simp [rd]
theorem eqIntS_ev (l : List Int) (hl : l.length < 4611686018427387904) : Ev (fun k => laws_eqIntS.f k l l) true := by
  unfold laws_eqIntS.f
  simp only [if_true]
  exact Ev.upto (L := fun k j => laws_eqIntS.l0 k l l (j : Int)) (r := true) (n := l.length)
    (by
      refine Ev.succ ?_
      simp only [laws_eqIntS.l0, Int.lt_irrefl, if_false]
      exact Ev.now _)
    (by
      intro j hj h
      refine Ev.succ ?_
      have h1 : ((j : Int) < (l.length : Int)) = True := eq_true (by omega)
      simp only [laws_eqIntS.l0, h1, if_true, nat_nonneg, wrap_succ (show j < 4611686018427387904 by omega)]
      exact h)
    0 (Nat.zero_le _)
theorem toIntS_ev (l : List Int) (hl : l.length * 8 ≤ 140737488351232) : Ev (fun k => laws_toIntS.f k l) l := by
  unfold laws_toIntS.f
  simp only [nat_nonneg, if_true, Int.toNat_natCast, show (l.length ≤ 35184372088832) = True from eq_true (by omega)]
  have key := Ev.copy (fun x : Int => x) l 0 0 (fun k s j => laws_toIntS.l0 k l s j)
    (by
      intro j s r hj hs h
      refine Ev.succ ?_
      have h1 : ((j : Int) < (l.length : Int)) = True := eq_true (by omega)
      simp only [laws_toIntS.l0, h1, if_true, nat_nonneg, hs, Int.toNat_natCast, wrap_succ (show j < 4611686018427387904 by omega), rdJ]
      exact h)
    (by
      intro s hs
      refine Ev.succ ?_
      simp only [laws_toIntS.l0, Int.lt_irrefl, if_false]
      exact Ev.now _)
  simpa using key

def wat (l : List S59) (j : Nat) : S59 := l.getD j z59
theorem rdw (l : List S59) (j : Nat) : rd_T59 l (j : Int) = wat l j := by simp [rd_T59, wat]
theorem rdwL (l : List S54) (j : Nat) : rd_T54 l (j : Int) = l.getD j z54 := by simp [rd_T54]
theorem wat_get (l : List S59) (j : Nat) (h : j < l.length) : wat l j = l[j] := by unfold wat; rw [List.getD_eq_getElem?_getD, List.getElem?_eq_getElem h]; rfl
/-- All needs and glosses are few and short enough. -/
def WSz (l : List S59) : Prop := ∀ q, q ∈ l → q.f1.length ≤ 1048576 ∧ q.f0.size ≤ 1048576
theorem wsz_at {l : List S59} (hz : WSz l) {j : Nat} (hj : j < l.length) : (wat l j).f1.length ≤ 1048576 ∧ (wat l j).f0.size ≤ 1048576 := by rw [wat_get l j hj]; exact hz _ (List.getElem_mem hj)
/-! strictly rising numbers within bounds -/
def riseAt (l : List Int) (a b : Int) (j : Nat) : Bool := inB (l.getD j 0) a b && (decide (j = 0) || decide (l.getD (j - 1) 0 < l.getD j 0))
def riseB (l : List Int) (a b : Int) : Bool := (List.range l.length).all (riseAt l a b)
theorem l1Rising_ev (l : List Int) (a b : Int) (hl : l.length < 4611686018427387904) : Ev (fun k => spec_l1Rising.f k l a b) (riseB l a b) := by
  unfold spec_l1Rising.f riseB
  refine Ev.eq (Ev.all0 (L := fun k j => spec_l1Rising.l0 k l a b l (l.length : Int) (j : Int)) (P := riseAt l a b) (n := l.length) (a := true) (b := false) ?_ ?_ ?_) (by split <;> simp_all)
  · refine Ev.succ ?_
    simp only [spec_l1Rising.l0, Int.lt_irrefl, if_false]
    exact Ev.now _
  · intro j r hj hP h
    refine Ev.succ ?_
    have h1 : ((j : Int) < (l.length : Int)) = True := eq_true (by omega)
    unfold riseAt at hP
    rw [Bool.and_eq_true] at hP
    simp only [spec_l1Rising.l0, h1, if_true, nat_nonneg, rdJ, l1In_eq, Option.bind_some, hP.1, wrap_succ (show j < 4611686018427387904 by omega)]
    by_cases h0 : j = 0
    · subst h0
      simp only [Int.natCast_zero, gt_iff_lt, Int.lt_irrefl, if_false]
      exact h
    · have h2 : ((j : Int) > 0) = True := eq_true (by omega)
      have h3 : (((j - 1 : Nat) : Int) < (l.length : Int)) = True := eq_true (by omega)
      have h4 := hP.2
      simp only [h0, decide_false, Bool.false_or, decide_eq_true_eq] at h4
      have h5 : (l.getD (j - 1) 0 ≥ l.getD j 0) = False := eq_false (by omega)
      simp only [h2, if_true, wrap_pred (show 0 < j by omega) (show j < 4611686018427387904 by omega), nat_nonneg, h3, rdJ, h5, if_false]
      exact h
  · intro j hj hP
    refine Ev.succ ?_
    have h1 : ((j : Int) < (l.length : Int)) = True := eq_true (by omega)
    unfold riseAt at hP
    simp only [spec_l1Rising.l0, h1, if_true, nat_nonneg, rdJ, l1In_eq, Option.bind_some]
    rcases Bool.eq_false_or_eq_true (inB (l.getD j 0) a b) with hb | hb
    · rw [hb, Bool.true_and, Bool.or_eq_false_iff, decide_eq_false_iff_not, decide_eq_false_iff_not] at hP
      have h2 : ((j : Int) > 0) = True := eq_true (by have := hP.1; omega)
      have h3 : (((j - 1 : Nat) : Int) < (l.length : Int)) = True := eq_true (by omega)
      have h5 : (l.getD (j - 1) 0 ≥ l.getD j 0) = True := eq_true (by have := hP.2; omega)
      simp only [hb, if_true, h2, wrap_pred (show 0 < j by have := hP.1; omega) (show j < 4611686018427387904 by omega), nat_nonneg, h3, rdJ, h5]
      exact Ev.now _
    · simp only [hb, Bool.false_eq_true, if_false]
      exact Ev.now _
/-! the program's test of an order -/
def sortAt (l : List Int) (j : Nat) : Bool := decide (j = 0) || decide (l.getD (j - 1) 0 ≤ l.getD j 0)
def sortB (l : List Int) : Bool := (List.range l.length).all (sortAt l)
theorem less_eq (a b : Int) : cmp_Less_int.f a b = some (decide (a < b)) := by
  unfold cmp_Less_int.f cmp_isNaN_int.f
  simp
theorem isSorted_l0 (l : List Int) (hl : l.length < 4611686018427387904) : ∀ j, j < l.length → Ev (fun k => slices_IsSorted_int.l0 k l (j : Int)) ((List.range (j + 1)).all (sortAt l)) := by
  intro j
  induction j with
  | zero =>
    intro _
    refine Ev.succ ?_
    simp only [slices_IsSorted_int.l0, Int.natCast_zero, gt_iff_lt, Int.lt_irrefl, if_false]
    refine Ev.eq (Ev.now _) ?_
    simp [sortAt]
  | succ j ih =>
    intro hj
    refine Ev.succ ?_
    have h1 : (((j + 1 : Nat) : Int) > 0) = True := eq_true (by omega)
    have h2 : (((j + 1 : Nat) : Int) < (l.length : Int)) = True := eq_true (by omega)
    have h3 : ((j : Int) < (l.length : Int)) = True := eq_true (by omega)
    have h4 : wrap64 (((j + 1 : Nat) : Int) - 1) = (j : Int) := by rw [wrap_id (by omega) (by omega)]; omega
    simp only [slices_IsSorted_int.l0, h1, h2, if_true, nat_nonneg, h4, h3, rdJ, less_eq, Option.bind_some]
    rw [List.range_succ, List.all_append]
    by_cases h5 : l.getD (j + 1) 0 < l.getD j 0
    · simp only [h5, decide_true, if_true]
      refine Ev.eq (Ev.now _) ?_
      have : sortAt l (j + 1) = false := by
        unfold sortAt
        simp only [Nat.add_sub_cancel, Bool.or_eq_false_iff, decide_eq_false_iff_not]
        exact ⟨by omega, by omega⟩
      simp [this]
    · simp only [h5, decide_false, Bool.false_eq_true, if_false]
      refine Ev.eq (ih (by omega)) ?_
      have : sortAt l (j + 1) = true := by
        unfold sortAt
        simp only [Nat.add_sub_cancel, Bool.or_eq_true, decide_eq_true_eq]
        exact Or.inr (by omega)
      simp [this]
theorem isSorted_ev (l : List Int) (hl : l.length < 4611686018427387904) : Ev (fun k => slices_IsSorted_int.f k l) (sortB l) := by
  unfold slices_IsSorted_int.f sortB
  by_cases h0 : l.length = 0
  · rw [h0]
    refine Ev.succ ?_
    simp only [slices_IsSorted_int.l0, show (wrap64 (((0 : Nat) : Int) - 1) > 0) = False from eq_false (by unfold wrap64; omega), if_false]
    exact Ev.now _
  · rw [wrap_pred (by omega) (by omega)]
    refine Ev.eq (isSorted_l0 l hl (l.length - 1) (by omega)) ?_
    rw [show l.length - 1 + 1 = l.length by omega]
theorem rise_eq (l : List Int) (a b : Int) : riseB l a b = (l.all (fun x => decide (a ≤ x ∧ x ≤ b)) && (decide l.Nodup && sortB l)) := by
  have hg : ∀ i (hi : i < l.length), l.getD i 0 = l[i] := fun i hi => by rw [List.getD_eq_getElem?_getD, List.getElem?_eq_getElem hi]; rfl
  rw [Bool.eq_iff_iff, Bool.and_eq_true, Bool.and_eq_true, riseB, sortB, List.all_eq_true, List.all_eq_true, List.all_eq_true, decide_eq_true_eq]
  constructor
  · intro h
    have hlt : ∀ j, 0 < j → (hj : j < l.length) → l[j - 1]'(by omega) < l[j] := by
      intro j h0 hj
      have h2 := h j (List.mem_range.2 hj)
      rw [riseAt, Bool.and_eq_true, Bool.or_eq_true, decide_eq_true_eq, decide_eq_true_eq, hg j hj, hg (j - 1) (by omega)] at h2
      rcases h2.2 with h3 | h3
      · omega
      · exact h3
    refine ⟨fun x hx => ?_, ?_, fun j hj => ?_⟩
    · obtain ⟨i, hi, rfl⟩ := List.getElem_of_mem hx
      have := h i (List.mem_range.2 hi)
      rw [riseAt, hg i hi, Bool.and_eq_true] at this
      exact this.1
    · rw [List.Nodup, List.pairwise_iff_getElem]
      intro i j hi hj hij
      have := pairs_lt l hlt (j - i - 1) i (by omega)
      have e4 : l[i + (j - i - 1) + 1]'(by omega) = l[j] := by congr 1; omega
      omega
    · have hj' := List.mem_range.1 hj
      rw [sortAt, Bool.or_eq_true, decide_eq_true_eq, decide_eq_true_eq]
      by_cases h0 : j = 0
      · exact Or.inl h0
      · refine Or.inr ?_
        rw [hg j hj', hg (j - 1) (by omega)]
        exact Int.le_of_lt (hlt j (by omega) hj')
  · rintro ⟨h1, h2, h3⟩ j hj
    have hj' := List.mem_range.1 hj
    rw [riseAt, Bool.and_eq_true, hg j hj']
    refine ⟨h1 _ (List.getElem_mem hj'), ?_⟩
    rw [Bool.or_eq_true, decide_eq_true_eq, decide_eq_true_eq]
    by_cases h0 : j = 0
    · exact Or.inl h0
    · have h4 := h3 j hj
      rw [sortAt, Bool.or_eq_true, decide_eq_true_eq, decide_eq_true_eq, hg j hj', hg (j - 1) (by omega)] at h4
      rw [List.Nodup, List.pairwise_iff_getElem] at h2
      have h5 := h2 (j - 1) j (by omega) hj' (by omega)
      rw [hg (j - 1) (by omega)]
      rcases h4 with h4 | h4
      · exact absurd h4 h0
      · exact Or.inr (by omega)
/-! words -/
def dupW (l : List S59) (s : ByteArray) : Bool := l.any fun x => decide (x.f0.toList = s.toList)
def topW (l : List S59) : Int := wrap64 ((l.length : Int) - 1)
def goodAt (l : List S59) (j : Nat) : Bool := glossB (wat l j).f0 && (riseB (wat l j).f1 0 (topW l) && (!(decide ((j : Int) ∈ (wat l j).f1)) && (inB (wat l j).f2 0 99999 && !(dupW (l.take j) (wat l j).f0))))
def wordsB (l : List S59) : Bool := (List.range l.length).all (goodAt l) && decide (l.length ≤ 16)
theorem leGood_l1 (l y : List S59) (j : Nat) (s : ByteArray) (n : List Int) (u : Int) (r : Bool) (hy : y.length < 4611686018427387904) (hc : dupW y s = false → Ev (fun k => spec_leGood.l0 k l l (l.length : Int) (wrap64 ((j : Int) + 1))) r) : ∀ d i, i + d = y.length → dupW (y.take i) s = false → Ev (fun k => spec_leGood.l1 k l l (l.length : Int) (j : Int) y (y.length : Int) (i : Int) s n u) (if dupW (y.drop i) s then false else r) := by
  intro d
  induction d with
  | zero =>
    intro i hi h0
    refine Ev.succ ?_
    have h1 : ((i : Int) < (y.length : Int)) = False := eq_false (by omega)
    rw [List.take_of_length_le (by omega)] at h0
    simp only [spec_leGood.l1, h1, if_false]
    rw [List.drop_of_length_le (by omega)]
    exact hc h0
  | succ d ih =>
    intro i hi h0
    refine Ev.succ ?_
    have hlt : i < y.length := by omega
    have h1 : ((i : Int) < (y.length : Int)) = True := eq_true (by omega)
    simp only [spec_leGood.l1, h1, if_true, nat_nonneg, rdw, wrap_succ (show i < 4611686018427387904 by omega)]
    have hdup : dupW (y.drop i) s = (decide (y[i].f0.toList = s.toList) || dupW (y.drop (i + 1)) s) := by rw [List.drop_eq_getElem_cons hlt]; unfold dupW; rw [List.any_cons]
    rw [hdup, wat_get y i hlt]
    by_cases h2 : y[i].f0.toList = s.toList
    · simp only [eq_true h2, if_true, decide_true, Bool.true_or]
      exact Ev.now _
    · simp only [eq_false h2, if_false, decide_false, Bool.false_or]
      refine ih (i + 1) (by omega) ?_
      rw [List.take_succ_eq_append_getElem hlt]
      unfold dupW at h0 ⊢
      rw [List.any_append, h0]
      simp [h2]
theorem leGood_j1 (l : List S59) (j : Nat) (b : Bool) (r : Bool) (s : ByteArray) (n : List Int) (u : Int) (hl : l.length ≤ 1048576) (hj : j < l.length) (hc : b = false → dupW (l.take j) s = false → Ev (fun k => spec_leGood.l0 k l l (l.length : Int) (wrap64 ((j : Int) + 1))) r) : Ev (fun k => spec_leGood.j1 k l (j : Int) l (l.length : Int) (j : Int) b s n u) (if b || dupW (l.take j) s then false else r) := by
  refine Ev.succ ?_
  cases b with
  | true =>
    simp only [spec_leGood.j1, if_true]
    exact Ev.now _
  | false =>
    have h2 : ((j : Int) ≤ (l.length : Int)) = True := eq_true (by omega)
    simp only [spec_leGood.j1, Bool.false_eq_true, if_false, nat_nonneg, h2, if_true, Option.bind_some, Int.toNat_natCast, Bool.false_or]
    have := leGood_l1 l (l.take j) j s n u r (by rw [List.length_take]; omega) (hc rfl) (l.take j).length 0 (by omega) (by simp [dupW])
    rw [List.drop_zero] at this
    exact this
theorem leGood_step (l : List S59) (j : Nat) (r : Bool) (hl : l.length ≤ 1048576) (hz : WSz l) (hj : j < l.length) (hc : goodAt l j = true → Ev (fun k => spec_leGood.l0 k l l (l.length : Int) ((j + 1 : Nat) : Int)) r) : Ev (fun k => spec_leGood.l0 k l l (l.length : Int) (j : Int)) (if goodAt l j then r else false) := by
  refine Ev.succ ?_
  have h1 : ((j : Int) < (l.length : Int)) = True := eq_true (by omega)
  obtain ⟨z1, z0⟩ := wsz_at hz hj
  rw [← wrap_succ (show j < 4611686018427387904 by omega)] at hc
  simp only [spec_leGood.l0, h1, if_true, nat_nonneg, rdw]
  refine Ev.bind (enGloss_ev _ (by omega)) ?_
  cases hg : glossB (wat l j).f0 with
  | false =>
    have e : goodAt l j = false := by unfold goodAt; rw [hg, Bool.false_and]
    rw [e]
    simp only [Bool.false_eq_true, if_false]
    exact Ev.eq (leGood_j1 l j true r _ _ _ hl hj (fun h => nomatch h)) rfl
  | true =>
    simp only [if_true]
    refine Ev.bind (l1Rising_ev _ _ _ (by omega)) ?_
    change Ev (fun k => if riseB (wat l j).f1 0 (topW l) = true then _ else _) _
    cases hr : riseB (wat l j).f1 0 (topW l) with
    | false =>
      have e : goodAt l j = false := by unfold goodAt; rw [hg, hr, Bool.false_and, Bool.and_false]
      rw [e]
      simp only [Bool.false_eq_true, if_false]
      exact Ev.eq (leGood_j1 l j true r _ _ _ hl hj (fun h => nomatch h)) rfl
    | true =>
      simp only [if_true]
      refine Ev.bind (l1Has_ev _ _ (by omega)) ?_
      cases hh : decide ((j : Int) ∈ (wat l j).f1) with
      | true =>
        have e : goodAt l j = false := by unfold goodAt; rw [hg, hr, hh]; rfl
        rw [e]
        simp only [if_true]
        exact Ev.eq (leGood_j1 l j true r _ _ _ hl hj (fun h => nomatch h)) rfl
      | false =>
        simp only [Bool.false_eq_true, if_false, l1In_eq, Option.bind_some]
        cases hi : inB (wat l j).f2 0 99999 with
        | false =>
          have e : goodAt l j = false := by unfold goodAt; rw [hg, hr, hh, hi]; rfl
          rw [e]
          exact Ev.eq (leGood_j1 l j true r _ _ _ hl hj (fun h => nomatch h)) rfl
        | true =>
          have e : goodAt l j = !(dupW (l.take j) (wat l j).f0) := by unfold goodAt; rw [hg, hr, hh, hi]; rfl
          rw [e] at hc ⊢
          refine Ev.eq (leGood_j1 l j false r _ _ _ hl hj (fun _ h => hc (by rw [h]; rfl))) ?_
          cases dupW (l.take j) (wat l j).f0 <;> rfl
theorem leGood_ev (l : List S59) (hl : l.length ≤ 1048576) (hz : WSz l) : Ev (fun k => spec_leGood.f k l) (wordsB l) := by
  unfold spec_leGood.f wordsB
  refine Ev.eq (Ev.all0 (L := fun k j => spec_leGood.l0 k l l (l.length : Int) (j : Int)) (P := goodAt l) (n := l.length) (a := decide (l.length ≤ 16)) (b := false) ?_ ?_ ?_) (by cases (List.range l.length).all (goodAt l) <;> simp)
  · refine Ev.succ ?_
    simp only [spec_leGood.l0, Int.lt_irrefl, if_false]
    refine Ev.eq (Ev.now _) ?_
    rw [decide_eq_decide]
    omega
  · intro j r hj hP h
    have := leGood_step l j r hl hz hj (fun _ => h)
    rw [hP, if_pos rfl] at this
    exact this
  · intro j hj hP
    have := leGood_step l j false hl hz hj (fun h => by rw [hP] at h; cases h)
    rw [hP] at this
    exact this
theorem areWords_j2 (l : List S59) (j : Nat) (b : Bool) (r : Bool) (s : ByteArray) (n : List Int) (u : Int) (hj : j < l.length) (hc : b = false → dupW (l.take j) s = false → Ev (fun k => impl_AreWords.l0 k l l (l.length : Int) (wrap64 ((j : Int) + 1))) r) : Ev (fun k => impl_AreWords.j2 k l (j : Int) l (l.length : Int) (j : Int) b s n u) (if b || dupW (l.take j) s then false else r) := by
  refine Ev.succ ?_
  cases b with
  | true =>
    simp only [impl_AreWords.j2, if_true]
    exact Ev.now _
  | false =>
    have h2 : ((j : Int) ≤ (l.length : Int)) = True := eq_true (by omega)
    simp only [impl_AreWords.j2, Bool.false_eq_true, if_false, nat_nonneg, h2, if_true, Option.bind_some, Int.toNat_natCast, Bool.false_or, slices_ContainsFunc_impl_Word.f]
    change Ev (fun k => if dupW (l.take j) s = true then _ else _) _
    cases h3 : dupW (l.take j) s with
    | true => simp only [if_true]; exact Ev.now _
    | false => simp only [Bool.false_eq_true, if_false]; exact hc rfl h3
theorem areWords_j1 (l : List S59) (j : Nat) (b : Bool) (r : Bool) (s : ByteArray) (n : List Int) (u : Int) (hn : n.length ≤ 1048576) (hj : j < l.length) (hc : b = false → (decide n.Nodup && sortB n) = true → dupW (l.take j) s = false → Ev (fun k => impl_AreWords.l0 k l l (l.length : Int) (wrap64 ((j : Int) + 1))) r) : Ev (fun k => impl_AreWords.j1 k l (j : Int) l (l.length : Int) (j : Int) b s n u) (if b || (!(decide n.Nodup && sortB n) || dupW (l.take j) s) then false else r) := by
  refine Ev.succ ?_
  cases b with
  | true =>
    simp only [impl_AreWords.j1, if_true]
    exact Ev.now _
  | false =>
    obtain ⟨t, ht, hd⟩ := distinct_len n (by omega)
    simp only [impl_AreWords.j1, Bool.false_eq_true, if_false, ht, Option.bind_some, Bool.false_or]
    by_cases h3 : n.Nodup
    · have h4 : ((t.length : Int) = (n.length : Int)) = True := eq_true (by have := hd.2 h3; omega)
      simp only [h4, if_true]
      refine Ev.bind (isSorted_ev n (by omega)) ?_
      refine Ev.eq (areWords_j2 l j (!sortB n) r s n u hj (fun h => hc rfl (by simp [h3]; simpa using h))) ?_
      simp [h3]
    · have h4 : ((t.length : Int) = (n.length : Int)) = False := eq_false (fun e => h3 (hd.1 (by omega)))
      simp only [h4, if_false]
      refine Ev.eq (areWords_j2 l j true r s n u hj (fun h => nomatch h)) ?_
      simp [h3]
theorem areWords_step (l : List S59) (j : Nat) (r : Bool) (hz : WSz l) (hj : j < l.length) (hl : l.length ≤ 1048576) (hc : goodAt l j = true → Ev (fun k => impl_AreWords.l0 k l l (l.length : Int) ((j + 1 : Nat) : Int)) r) : Ev (fun k => impl_AreWords.l0 k l l (l.length : Int) (j : Int)) (if goodAt l j then r else false) := by
  refine Ev.succ ?_
  have h1 : ((j : Int) < (l.length : Int)) = True := eq_true (by omega)
  obtain ⟨z1, z0⟩ := wsz_at hz hj
  rw [← wrap_succ (show j < 4611686018427387904 by omega)] at hc
  simp only [impl_AreWords.l0, h1, if_true, nat_nonneg, rdw, impl_allWithin.f, within_eq, Option.bind_some]
  refine Ev.bind (isGloss_ev _ (by omega)) ?_
  have hE : goodAt l j = (glossB (wat l j).f0 && (((wat l j).f1.all (fun x => decide (0 ≤ x ∧ x ≤ topW l)) && (decide (wat l j).f1.Nodup && sortB (wat l j).f1)) && (!(decide ((j : Int) ∈ (wat l j).f1)) && (inB (wat l j).f2 0 99999 && !(dupW (l.take j) (wat l j).f0))))) := by unfold goodAt; rw [rise_eq]
  change Ev (fun k => if glossB (wat l j).f0 = true then (if inB (wat l j).f2 0 99999 = true then (if ((wat l j).f1.all fun x => decide (0 ≤ x ∧ x ≤ topW l)) = true then _ else _) else _) else _) _
  cases hg : glossB (wat l j).f0 with
  | false =>
    have e : goodAt l j = false := by rw [hE, hg, Bool.false_and]
    rw [e]
    simp only [Bool.false_eq_true, if_false]
    exact Ev.eq (areWords_j1 l j true r _ _ _ z1 hj (fun h => nomatch h)) rfl
  | true =>
    simp only [if_true]
    cases hi : inB (wat l j).f2 0 99999 with
    | false =>
      have e : goodAt l j = false := by rw [hE, hi, Bool.false_and, Bool.and_false, Bool.and_false, Bool.and_false]
      rw [e]
      simp only [Bool.false_eq_true, if_false]
      exact Ev.eq (areWords_j1 l j true r _ _ _ z1 hj (fun h => nomatch h)) rfl
    | true =>
      simp only [if_true]
      cases hw : ((wat l j).f1.all fun x => decide (0 ≤ x ∧ x ≤ topW l)) with
      | false =>
        have e : goodAt l j = false := by rw [hE, hw, Bool.false_and, Bool.false_and, Bool.and_false]
        rw [e]
        simp only [Bool.false_eq_true, if_false]
        exact Ev.eq (areWords_j1 l j true r _ _ _ z1 hj (fun h => nomatch h)) rfl
      | true =>
        simp only [if_true]
        refine Ev.bind (contains_ev _ _ (by omega)) ?_
        rw [hE, hg, hi, hw] at hc
        rw [hE, hg, hi, hw]
        refine Ev.eq (areWords_j1 l j _ r _ _ _ z1 hj (fun h1 h2 h3 => hc (by rw [h1, h2, h3]; rfl))) ?_
        cases decide ((j : Int) ∈ (wat l j).f1) <;> cases (decide (wat l j).f1.Nodup && sortB (wat l j).f1) <;> cases dupW (l.take j) (wat l j).f0 <;> rfl
theorem areWords_ev (l : List S59) (hl : l.length ≤ 1048576) (hz : WSz l) : Ev (fun k => impl_AreWords.f k l) (wordsB l) := by
  unfold impl_AreWords.f wordsB
  refine Ev.eq (Ev.all0 (L := fun k j => impl_AreWords.l0 k l l (l.length : Int) (j : Int)) (P := goodAt l) (n := l.length) (a := decide (l.length ≤ 16)) (b := false) ?_ ?_ ?_) (by cases (List.range l.length).all (goodAt l) <;> simp)
  · refine Ev.succ ?_
    simp only [impl_AreWords.l0, Int.lt_irrefl, if_false]
    refine Ev.eq (Ev.now _) ?_
    rw [decide_eq_decide]
    omega
  · intro j r hj hP h
    have := areWords_step l j r hz hj hl (fun _ => h)
    rw [hP, if_pos rfl] at this
    exact this
  · intro j hj hP
    have := areWords_step l j false hz hj hl (fun h => by rw [hP] at h; cases h)
    rw [hP] at this
    exact this
theorem topW_eq (l : List S59) (hl : l.length ≤ 1048576) : topW l = (l.length : Int) - 1 := by
  unfold topW
  rw [wrap_id (by omega) (by omega)]
/-! lists, one behind the other -/
def readyB (l : List S59) (done : List Int) (i : Int) : Bool := (wat l i.toNat).f1.all fun x => decide (x ∈ done)
theorem rdwI (l : List S59) (i : Int) : rd_T59 l i = wat l i.toNat := rfl
theorem all_range (l : List Int) (p : Int → Bool) : (List.range l.length).all (fun j => p (l.getD j 0)) = l.all p := by
  have hg : ∀ i (hi : i < l.length), l.getD i 0 = l[i] := fun i hi => by rw [List.getD_eq_getElem?_getD, List.getElem?_eq_getElem hi]; rfl
  rw [Bool.eq_iff_iff, List.all_eq_true, List.all_eq_true]
  constructor
  · intro h x hx
    obtain ⟨i, hi, rfl⟩ := List.getElem_of_mem hx
    have := h i (List.mem_range.2 hi)
    rwa [hg i hi] at this
  · intro h j hj
    rw [hg j (List.mem_range.1 hj)]
    exact h _ (List.getElem_mem _)
theorem leReady_ev (l : List S59) (done : List Int) (i : Int) (hz : WSz l) (hd : done.length ≤ 1048576) (h0 : 0 ≤ i) (h1 : i < l.length) : Ev (fun k => spec_leReady.f k l done i) (readyB l done i) := by
  unfold spec_leReady.f readyB
  have hn := (wsz_at hz (show i.toNat < l.length by omega)).1
  simp only [eq_true h0, eq_true h1, if_true, rdwI]
  generalize (wat l i.toNat).f1 = n at hn
  refine Ev.eq (Ev.all0 (L := fun k j => spec_leReady.l0 k done n (n.length : Int) (j : Int)) (P := fun j => decide (n.getD j 0 ∈ done)) (n := n.length) (a := true) (b := false) ?_ ?_ ?_) (by rw [all_range n (fun x => decide (x ∈ done))]; cases n.all fun x => decide (x ∈ done) <;> rfl)
  · refine Ev.succ ?_
    simp only [spec_leReady.l0, Int.lt_irrefl, if_false]
    exact Ev.now _
  · intro j r hj hP h
    refine Ev.succ ?_
    have h1 : ((j : Int) < (n.length : Int)) = True := eq_true (by omega)
    simp only [spec_leReady.l0, h1, if_true, nat_nonneg, rdJ, wrap_succ (show j < 4611686018427387904 by omega)]
    refine Ev.bind (l1Has_ev _ _ (by omega)) ?_
    simp only [hP, if_true]
    exact h
  · intro j hj hP
    refine Ev.succ ?_
    have h1 : ((j : Int) < (n.length : Int)) = True := eq_true (by omega)
    simp only [spec_leReady.l0, h1, if_true, nat_nonneg, rdJ]
    refine Ev.bind (l1Has_ev _ _ (by omega)) ?_
    simp only [hP, Bool.false_eq_true, if_false]
    exact Ev.now _
/-- Each word stands behind all that it needs. -/
def Teach (need : Int → List Int) : List Int → List Int → Prop
  | _, [] => True
  | done, x :: t => (∀ k, k ∈ need x → k ∈ done) ∧ Teach need (done ++ [x]) t
theorem teach_append {need : Int → List Int} : ∀ (a b done : List Int), Teach need done (a ++ b) ↔ Teach need done a ∧ Teach need (done ++ a) b
  | [], b, done => by simp [Teach]
  | x :: a, b, done => by
    show (_ ∧ Teach need (done ++ [x]) (a ++ b)) ↔ (_ ∧ Teach need (done ++ [x]) a) ∧ _
    rw [teach_append a b (done ++ [x]), List.append_assoc, List.singleton_append, and_assoc]
theorem nodup_len : ∀ (a b : List Int), a.Nodup → (∀ x, x ∈ a → x ∈ b) → a.length ≤ b.length
  | [], b, _, _ => by simp
  | x :: a, b, hn, hs => by
    obtain ⟨hx, ha⟩ := List.nodup_cons.1 hn
    obtain ⟨p, q, rfl⟩ := List.append_of_mem (hs x (List.mem_cons_self ..))
    have := nodup_len a (p ++ q) ha (fun y hy => by
      have h1 := hs y (List.mem_cons_of_mem _ hy)
      simp only [List.mem_append, List.mem_cons] at h1 ⊢
      rcases h1 with h1 | rfl | h1
      · exact Or.inl h1
      · exact absurd hy hx
      · exact Or.inr h1)
    simp only [List.length_append, List.length_cons] at this ⊢
    omega
theorem all_mem (n : Nat) : ∀ x : Int, x ∈ (List.range n).map Int.ofNat ↔ 0 ≤ x ∧ x < n := by
  intro x
  rw [List.mem_map]
  constructor
  · rintro ⟨i, hi, rfl⟩
    have := List.mem_range.1 hi
    exact ⟨Int.natCast_nonneg i, by show (i : Int) < n; omega⟩
  · rintro ⟨h0, h1⟩
    exact ⟨x.toNat, List.mem_range.2 (by omega), by show (x.toNat : Int) = x; omega⟩
theorem range_le {n : Nat} {a : List Int} (ha : a.Nodup) (hr : ∀ x, x ∈ a → 0 ≤ x ∧ x < n) : a.length ≤ n := by
  have := nodup_len a ((List.range n).map Int.ofNat) ha (fun x hx => (all_mem n x).2 (hr x hx))
  simpa using this
/-- As many as there are: all of them. -/
theorem range_full {n : Nat} {a : List Int} (ha : a.Nodup) (hr : ∀ x, x ∈ a → 0 ≤ x ∧ x < n) (hl : n ≤ a.length) : ∀ x : Int, 0 ≤ x → x < n → x ∈ a := by
  intro x h0 h1
  by_cases h : x ∈ a
  · exact h
  · have := range_le (n := n) (a := x :: a) (List.nodup_cons.2 ⟨h, ha⟩) (fun y hy => by
      rcases List.mem_cons.1 hy with rfl | hy
      · exact ⟨h0, h1⟩
      · exact hr y hy)
    simp only [List.length_cons] at this
    omega
/-- The place of a word in an order. -/
theorem teach_idx {need : Int → List Int} : ∀ (t done : List Int), Teach need done t → t.Nodup → (∀ x, x ∈ t → x ∉ done) → ∀ x k, x ∈ t → k ∈ need x → k ∈ t → t.idxOf k < t.idxOf x
  | [], _, _, _, _, x, _, hx, _, _ => nomatch hx
  | y :: t, done, ht, hn, hd, x, k, hx, hk, hkt => by
    obtain ⟨hy, hn'⟩ := List.nodup_cons.1 hn
    by_cases exy : x = y
    · subst exy
      exact absurd (ht.1 k hk) (hd k hkt)
    · have hx' : x ∈ t := by
        rcases List.mem_cons.1 hx with h | h
        · exact absurd h exy
        · exact h
      have e1 : (y :: t).idxOf x = t.idxOf x + 1 := by
        rw [List.idxOf_cons]
        have : (y == x) = false := by simpa using fun h => exy h.symm
        simp [this]
      rw [e1]
      by_cases eky : k = y
      · subst eky
        rw [List.idxOf_cons]
        simp
      · have e2 : (y :: t).idxOf k = t.idxOf k + 1 := by
          rw [List.idxOf_cons]
          have : (y == k) = false := by simpa using fun h => eky h.symm
          simp [this]
        rw [e2]
        have hkt' : k ∈ t := by
          rcases List.mem_cons.1 hkt with h | h
          · exact absurd h eky
          · exact h
        have := teach_idx t (done ++ [y]) ht.2 hn' (fun z hz h => by
          rcases List.mem_append.1 h with h | h
          · exact hd z (List.mem_cons_of_mem _ hz) h
          · rw [List.mem_singleton] at h; subst h; exact hy hz) x k hx' hk hkt'
        omega
/-- The first place with the most uses of those for which p holds, from place j on; b: the best so far, or -1. -/
def bestD (us : Int → Int) (p : Int → Bool) : Nat → Nat → Int → Int
  | 0, _, b => b
  | d + 1, j, b => bestD us p d (j + 1) (if p (j : Int) && (decide (b < 0) || decide (us (j : Int) > us b)) then (j : Int) else b)
theorem best_facts (us : Int → Int) (p : Int → Bool) (N : Nat) : ∀ d j (b : Int), j + d = N → (b = -1 ∧ (∀ i : Nat, i < j → p i = false) ∨ 0 ≤ b ∧ b < N ∧ p b = true) →
    (bestD us p d j b = -1 ∧ (∀ i : Nat, i < N → p i = false)) ∨ (0 ≤ bestD us p d j b ∧ bestD us p d j b < N ∧ p (bestD us p d j b) = true) := by
  intro d
  induction d with
  | zero =>
    intro j b hj h
    rw [Nat.add_zero] at hj
    subst hj
    exact h
  | succ d ih =>
    intro j b hj h
    unfold bestD
    refine ih (j + 1) _ (by omega) ?_
    by_cases hp : p (j : Int) = true
    · by_cases hc : (decide (b < 0) || decide (us (j : Int) > us b)) = true
      · simp only [hp, hc, Bool.true_and, if_true]
        exact Or.inr ⟨by omega, by omega, by first | exact hp | trivial⟩
      · simp only [hp, hc, Bool.true_and, Bool.false_eq_true, if_false]
        rcases h with ⟨rfl, _⟩ | h
        · simp at hc
        · exact Or.inr h
    · rw [Bool.not_eq_true] at hp
      simp only [hp, Bool.false_and, Bool.false_eq_true, if_false]
      rcases h with ⟨rfl, h⟩ | h
      · refine Or.inl ⟨rfl, fun i hi => ?_⟩
        by_cases e : i = j
        · subst e; exact hp
        · exact h i (by omega)
      · exact Or.inr h
def best (us : Int → Int) (p : Int → Bool) (N : Nat) : Int := bestD us p N 0 (-1)
theorem best_or (us : Int → Int) (p : Int → Bool) (N : Nat) : (best us p N = -1 ∧ ∀ i : Nat, i < N → p i = false) ∨ (0 ≤ best us p N ∧ best us p N < N ∧ p (best us p N) = true) :=
  best_facts us p N N 0 (-1) (by omega) (Or.inl ⟨rfl, fun i hi => absurd hi (by omega)⟩)
/-- All that a word needs is among some. -/
def rdy (nd : Int → List Int) (D : List Int) (i : Int) : Bool := (nd i).all fun k => decide (k ∈ D)
theorem rdy_iff (nd : Int → List Int) (D : List Int) (i : Int) : rdy nd D i = true ↔ ∀ k, k ∈ nd i → k ∈ D := by
  unfold rdy
  rw [List.all_eq_true]
  simp
/-- What may be taken next: not there yet, not in the lesson under way, all needs there. -/
def nextP (nd : Int → List Int) (D L : List Int) (i : Int) : Bool := !(decide (i ∈ D)) && (!(decide (i ∈ L)) && rdy nd D i)
theorem nextP_iff (nd : Int → List Int) (D L : List Int) (i : Int) : nextP nd D L i = true ↔ i ∉ D ∧ i ∉ L ∧ ∀ k, k ∈ nd i → k ∈ D := by
  unfold nextP
  rw [Bool.and_eq_true, Bool.and_eq_true, rdy_iff]
  simp
/-- An order, as far as there is one: at most f more words. -/
def orderD (us : Int → Int) (nd : Int → List Int) (N : Nat) : Nat → List Int → List Int
  | 0, D => D
  | f + 1, D => if best us (nextP nd D []) N < 0 then D else orderD us nd N f (D ++ [best us (nextP nd D []) N])
structure Good (nd : Int → List Int) (N : Nat) (D : List Int) : Prop where
  nodup : D.Nodup
  range : ∀ x, x ∈ D → 0 ≤ x ∧ x < N
  teach : Teach nd [] D
def Stuck (nd : Int → List Int) (N : Nat) (D : List Int) : Prop := ∀ i : Int, 0 ≤ i ∧ i < N → i ∉ D → ∃ k, k ∈ nd i ∧ k ∉ D
theorem good_nil (nd : Int → List Int) (N : Nat) : Good nd N [] := ⟨List.nodup_nil, fun _ h => absurd h (List.not_mem_nil), trivial⟩
theorem stuck_of_none {us : Int → Int} {nd : Int → List Int} {N : Nat} {D : List Int} (h : best us (nextP nd D []) N < 0) : Stuck nd N D := by
  rcases best_or us (nextP nd D []) N with ⟨_, h2⟩ | ⟨h0, _⟩
  · intro i hi hn
    have := h2 i.toNat (by omega)
    rw [show ((i.toNat : Nat) : Int) = i by omega] at this
    have hr : rdy nd D i = false := by
      by_cases hr : rdy nd D i = true
      · have : nextP nd D [] i = true := (nextP_iff nd D [] i).2 ⟨hn, by simp, (rdy_iff nd D i).1 hr⟩
        simp_all
      · simpa using hr
    unfold rdy at hr
    rw [List.all_eq_false] at hr
    obtain ⟨k, hk, hk2⟩ := hr
    exact ⟨k, hk, by simpa using hk2⟩
  · omega
theorem good_snoc {us : Int → Int} {nd : Int → List Int} {N : Nat} {D : List Int} (hg : Good nd N D) (h : ¬ best us (nextP nd D []) N < 0) : Good nd N (D ++ [best us (nextP nd D []) N]) := by
  rcases best_or us (nextP nd D []) N with ⟨h1, _⟩ | ⟨h0, h1, h2⟩
  · omega
  · obtain ⟨a1, _, a3⟩ := (nextP_iff nd D [] _).1 h2
    refine ⟨?_, ?_, ?_⟩
    · rw [List.nodup_append]
      refine ⟨hg.nodup, by simp, ?_⟩
      intro x hx y hy
      rw [List.mem_singleton] at hy
      subst hy
      intro e
      subst e
      exact a1 hx
    · intro x hx
      rcases List.mem_append.1 hx with hx | hx
      · exact hg.range x hx
      · rw [List.mem_singleton] at hx
        subst hx
        exact ⟨h0, h1⟩
    · rw [teach_append]
      exact ⟨hg.teach, fun k hk => by simpa using a3 k hk, trivial⟩
theorem order_facts (us : Int → Int) (nd : Int → List Int) (N : Nat) : ∀ f D, Good nd N D → N ≤ D.length + f → Good nd N (orderD us nd N f D) ∧ Stuck nd N (orderD us nd N f D)
  | 0, D, hg, hf => ⟨hg, fun i hi hn => absurd (range_full hg.nodup hg.range (by omega) i hi.1 hi.2) hn⟩
  | f + 1, D, hg, hf => by
    unfold orderD
    by_cases h : best us (nextP nd D []) N < 0
    · rw [if_pos h]
      exact ⟨hg, stuck_of_none h⟩
    · rw [if_neg h]
      exact order_facts us nd N f _ (good_snoc hg h) (by simp; omega)
/-- Links of a chain: each needs the next one. -/
def Links (nd : Int → List Int) : List Int → Prop
  | [] => True
  | [_] => True
  | a :: b :: t => b ∈ nd a ∧ Links nd (b :: t)
theorem links_idx {nd : Int → List Int} {D : List Int} (hD : D.Nodup) (hT : Teach nd [] D) : ∀ (c : List Int) (a : Int), (∀ x, x ∈ a :: c → x ∈ D) → Links nd (a :: c) → D.idxOf ((a :: c).getLast (by simp)) ≤ D.idxOf a
  | [], a, _, _ => by simp
  | b :: c, a, hm, hl => by
    have h1 := links_idx hD hT c b (fun x hx => hm x (List.mem_cons_of_mem _ hx)) hl.2
    have h2 := teach_idx D [] hT hD (fun _ _ h => nomatch h) a b (hm a (List.mem_cons_self ..)) hl.1 (hm b (by simp))
    rw [List.getLast_cons (by simp)]
    omega
/-- Where all can be taught no chain closes. -/
theorem no_cycle {nd : Int → List Int} {D : List Int} (hD : D.Nodup) (hT : Teach nd [] D) (c : List Int) (a : Int) (hm : ∀ x, x ∈ a :: c → x ∈ D) (hl : Links nd (a :: c)) (hc : a ∈ nd ((a :: c).getLast (by simp))) : False := by
  have h1 := links_idx hD hT c a hm hl
  have h2 := teach_idx D [] hT hD (fun _ _ h => nomatch h) _ a (hm _ (List.getLast_mem _)) hc (hm a (List.mem_cons_self ..))
  omega
def usW (l : List S59) (i : Int) : Int := (wat l i.toNat).f2
def ndW (l : List S59) (i : Int) : List Int := (wat l i.toNat).f1
theorem ready_rdy (l : List S59) (D : List Int) (i : Int) : readyB l D i = rdy (ndW l) D i := rfl
theorem nd_range {l : List S59} (h : wordsB l = true) : ∀ i : Int, 0 ≤ i → i < l.length → ∀ k, k ∈ ndW l i → 0 ≤ k ∧ k < l.length := by
  intro i h0 h1 k hk
  unfold wordsB at h
  rw [Bool.and_eq_true, List.all_eq_true, decide_eq_true_eq] at h
  have hl := h.2
  have hg := h.1 i.toNat (List.mem_range.2 (by omega))
  unfold goodAt at hg
  rw [Bool.and_eq_true, Bool.and_eq_true] at hg
  have hr := hg.2.1
  rw [rise_eq, Bool.and_eq_true, List.all_eq_true] at hr
  have := of_decide_eq_true (hr.1 k hk)
  rw [topW_eq l (by omega)] at this
  omega
theorem leBest_l0 (l : List S59) (D L : List Int) (hz : WSz l) (hl : l.length ≤ 1048576) (hD : D.length ≤ 1048576) (hL : L.length ≤ 1048576) : ∀ d j (b : Int), j + d = l.length → (b = -1 ∨ 0 ≤ b ∧ b < l.length) → Ev (fun k => spec_leBest.l0 k l D L b l (l.length : Int) (j : Int)) (bestD (usW l) (nextP (ndW l) D L) d j b) := by
  intro d
  induction d with
  | zero =>
    intro j b hj hb
    refine Ev.succ ?_
    have h1 : ((j : Int) < (l.length : Int)) = False := eq_false (by omega)
    simp only [spec_leBest.l0, h1, if_false, bestD]
    exact Ev.now _
  | succ d ih =>
    intro j b hj hb
    refine Ev.succ ?_
    have hlt : j < l.length := by omega
    have h1 : ((j : Int) < (l.length : Int)) = True := eq_true (by omega)
    have e4 : wrap64 ((j : Int) + 1) = ((j + 1 : Nat) : Int) := wrap_succ (by omega)
    have hu : usW l (j : Int) = (wat l j).f2 := by unfold usW; rw [Int.toNat_natCast]
    have hp : nextP (ndW l) D L (j : Int) = (!(decide ((j : Int) ∈ D)) && (!(decide ((j : Int) ∈ L)) && rdy (ndW l) D (j : Int))) := rfl
    unfold bestD
    rw [hp]
    simp only [spec_leBest.l0, h1, if_true, nat_nonneg, e4]
    refine Ev.bind (l1Has_ev D (j : Int) (by omega)) ?_
    cases decide ((j : Int) ∈ D) with
    | true =>
      simp only [if_true, Bool.not_true, Bool.false_and, Bool.false_eq_true, if_false]
      exact ih (j + 1) b (by omega) hb
    | false =>
      simp only [Bool.false_eq_true, if_false, Bool.not_false, Bool.true_and]
      refine Ev.bind (l1Has_ev L (j : Int) (by omega)) ?_
      cases decide ((j : Int) ∈ L) with
      | true =>
        simp only [if_true, Bool.not_true, Bool.false_and, Bool.false_eq_true, if_false]
        exact ih (j + 1) b (by omega) hb
      | false =>
        simp only [Bool.false_eq_true, if_false, Bool.not_false, Bool.true_and]
        refine Ev.bind (leReady_ev l D (j : Int) hz (by omega) (by omega) (by omega)) ?_
        rw [ready_rdy]
        cases rdy (ndW l) D (j : Int) with
        | false =>
          simp only [Bool.false_eq_true, if_false, Bool.false_and]
          exact ih (j + 1) b (by omega) hb
        | true =>
          simp only [if_true, Bool.true_and]
          have key := fun b' (hb' : b' = -1 ∨ 0 ≤ b' ∧ b' < (l.length : Int)) => ih (j + 1) b' (by omega) hb'
          by_cases h2 : b < 0
          · simp only [eq_true h2, if_true, decide_true, Bool.true_or]
            exact key (j : Int) (Or.inr ⟨by omega, by omega⟩)
          · have hb2 : 0 ≤ b ∧ b < (l.length : Int) := by omega
            have hub : usW l b = (wat l b.toNat).f2 := rfl
            simp only [eq_false h2, if_false, decide_false, Bool.false_or, eq_true hb2.1, eq_true hb2.2, if_true, rdw, rdwI, Int.toNat_natCast, hu, hub]
            by_cases h3 : (wat l j).f2 > (wat l b.toNat).f2
            · simp only [eq_true h3, if_true, decide_true]
              exact key (j : Int) (Or.inr ⟨by omega, by omega⟩)
            · simp only [eq_false h3, if_false, decide_false, Bool.false_eq_true]
              exact key b hb
theorem leBest_ev (l : List S59) (D L : List Int) (hz : WSz l) (hl : l.length ≤ 1048576) (hD : D.length ≤ 1048576) (hL : L.length ≤ 1048576) : Ev (fun k => spec_leBest.f k l D L) (best (usW l) (nextP (ndW l) D L) l.length) := by
  unfold spec_leBest.f best
  exact leBest_l0 l D L hz hl hD hL l.length 0 (-1) (by omega) (Or.inl rfl)
theorem leOrder_l0 (l : List S59) (hz : WSz l) (hl : l.length ≤ 1048576) : ∀ f D, Good (ndW l) l.length D → l.length ≤ D.length + f → Ev (fun k => spec_leOrder.l0 k l D) (orderD (usW l) (ndW l) l.length f D) := by
  intro f
  induction f with
  | zero =>
    intro D hg hf
    have hD := range_le hg.nodup hg.range
    refine Ev.succ ?_
    simp only [spec_leOrder.l0]
    refine Ev.bind (leBest_ev l D [] hz hl (by omega) (by simp)) ?_
    have h1 : best (usW l) (nextP (ndW l) D []) l.length < 0 := by
      rcases best_or (usW l) (nextP (ndW l) D []) l.length with ⟨h1, _⟩ | ⟨h0, h1, h2⟩
      · omega
      · exact absurd (range_full hg.nodup hg.range (by omega) _ h0 h1) ((nextP_iff _ D [] _).1 h2).1
    simp only [eq_true h1, if_true, orderD]
    exact Ev.now _
  | succ f ih =>
    intro D hg hf
    have hD := range_le hg.nodup hg.range
    refine Ev.succ ?_
    unfold orderD
    simp only [spec_leOrder.l0]
    refine Ev.bind (leBest_ev l D [] hz hl (by omega) (by simp)) ?_
    by_cases h1 : best (usW l) (nextP (ndW l) D []) l.length < 0
    · simp only [eq_true h1, if_true]
      exact Ev.now _
    · simp only [eq_false h1, if_false, eq_true (show D.length < 17592186044416 by omega), if_true]
      exact ih _ (good_snoc hg h1) (by rw [List.length_append]; simp; omega)
def ordW (l : List S59) : List Int := orderD (usW l) (ndW l) l.length l.length []
theorem leOrder_ev (l : List S59) (hz : WSz l) (hl : l.length ≤ 1048576) : Ev (fun k => spec_leOrder.f k l) (ordW l) := by
  unfold spec_leOrder.f ordW
  exact leOrder_l0 l hz hl l.length [] (good_nil _ _) (by simp)
theorem ordW_facts (l : List S59) : Good (ndW l) l.length (ordW l) ∧ Stuck (ndW l) l.length (ordW l) := order_facts _ _ _ _ [] (good_nil _ _) (by simp)
def la (c : List Int) : Int := c.getD (c.length - 1) 0
def hd (c : List Int) : Int := c.getD 0 0
theorem hd_mem (c : List Int) (h : 0 < c.length) : hd c ∈ c := by
  unfold hd
  rw [List.getD_eq_getElem?_getD, List.getElem?_eq_getElem h]
  exact List.getElem_mem h
theorem la_mem (c : List Int) (h : 0 < c.length) : la c ∈ c := by
  unfold la
  rw [List.getD_eq_getElem?_getD, List.getElem?_eq_getElem (show c.length - 1 < c.length by omega)]
  exact List.getElem_mem _
theorem la_getLast (a : Int) (c : List Int) : (a :: c).getLast (by simp) = la (a :: c) := by
  unfold la
  rw [List.getLast_eq_getElem, List.getD_eq_getElem?_getD, List.getElem?_eq_getElem (by simp)]
  rfl
theorem links_snoc (nd : Int → List Int) : ∀ (c : List Int) (k : Int), Links nd c → (0 < c.length → k ∈ nd (la c)) → Links nd (c ++ [k])
  | [], k, _, _ => trivial
  | [a], k, _, h => ⟨by simpa [la] using h (by simp), trivial⟩
  | a :: b :: t, k, hl, h => by
    refine ⟨hl.1, links_snoc nd (b :: t) k hl.2 (fun _ => ?_)⟩
    have := h (by simp)
    have e : la (a :: b :: t) = la (b :: t) := by rw [← la_getLast, ← la_getLast, List.getLast_cons (by simp)]
    rwa [e] at this
/-- A chain to be carried on by d more words to a cycle. -/
def cyc (nd : Int → List Int) : Nat → List Int → Option (List Int)
  | 0, c => if hd c ∈ nd (la c) then some c else none
  | d + 1, c => (nd (la c)).findSome? fun k => if decide (k > hd c) && !(decide (k ∈ c)) then cyc nd d (c ++ [k]) else none
theorem cyc_some (nd : Int → List Int) (P : Int → Prop) (hP : ∀ i, P i → ∀ k, k ∈ nd i → P k) : ∀ d c r, 0 < c.length → (∀ x, x ∈ c → P x) → Links nd c → cyc nd d c = some r → 0 < r.length ∧ r.length = c.length + d ∧ (∀ x, x ∈ r → P x) ∧ Links nd r ∧ hd r ∈ nd (la r)
  | 0, c, r, h0, hp, hl, h => by
    unfold cyc at h
    split at h
    · rename_i hm
      obtain rfl := Option.some.inj h
      exact ⟨h0, rfl, hp, hl, hm⟩
    · cases h
  | d + 1, c, r, h0, hp, hl, h => by
    unfold cyc at h
    obtain ⟨k, hk, h2⟩ := List.exists_of_findSome?_eq_some h
    split at h2
    · obtain ⟨a1, a2, a3, a4, a5⟩ := cyc_some nd P hP d (c ++ [k]) r (by simp) (fun x hx => by
        rcases List.mem_append.1 hx with hx | hx
        · exact hp x hx
        · rw [List.mem_singleton] at hx; subst hx; exact hP _ (hp _ (la_mem c h0)) _ hk) (links_snoc nd c k hl (fun _ => hk)) h2
      exact ⟨a1, by rw [a2, List.length_append, List.length_singleton]; omega, a3, a4, a5⟩
    · cases h2
theorem cyc_len (nd : Int → List Int) : ∀ d c r, cyc nd d c = some r → r.length = c.length + d
  | 0, c, r, h => by
    unfold cyc at h
    split at h
    · obtain rfl := Option.some.inj h
      rfl
    · cases h
  | d + 1, c, r, h => by
    unfold cyc at h
    obtain ⟨k, hk, h2⟩ := List.exists_of_findSome?_eq_some h
    split at h2
    · have := cyc_len nd d (c ++ [k]) r h2
      rw [this, List.length_append, List.length_singleton]
      omega
    · cases h2
theorem wordsB_len {l : List S59} (h : wordsB l = true) : l.length ≤ 16 := by
  unfold wordsB at h
  rw [Bool.and_eq_true, decide_eq_true_eq] at h
  exact h.2
theorem cloneC_eq (l : List Int) (hl : l.length < 17592186044416) : slices_Clone_int.f l = some l := by
  unfold slices_Clone_int.f
  simp only [Option.bind_some, List.length_nil, Nat.zero_add, List.nil_append, eq_true hl, if_true]
theorem ownC_eq (l : List Int) (hl : l.length < 17592186044416) : spec_l1Own.f l = some l := by
  unfold spec_l1Own.f
  simp only [Option.bind_some, List.length_nil, Nat.zero_add, List.nil_append, eq_true hl, if_true]
/-- From word i on, d more; then cycles of more words. -/
def shI (nd : Int → List Int) (n : Nat) : Nat → Nat → Option (List Int)
  | 0, _ => none
  | d + 1, i => match cyc nd (n - 1) [(i : Int)] with
    | some r => some r
    | none => shI nd n d (i + 1)
def shO (nd : Int → List Int) (N : Nat) : Nat → Nat → Option (List Int)
  | 0, _ => none
  | e + 1, n => match shI nd n N 0 with
    | some r => some r
    | none => shO nd N e (n + 1)
theorem shI_some (nd : Int → List Int) (n N : Nat) (hP : ∀ i : Int, (0 ≤ i ∧ i < N) → ∀ k, k ∈ nd i → 0 ≤ k ∧ k < N) : ∀ d i r, i + d ≤ N → shI nd n d i = some r → (∀ x, x ∈ r → 0 ≤ x ∧ x < N) ∧ 0 < r.length ∧ r.length ≤ n + 1 ∧ Links nd r ∧ hd r ∈ nd (la r)
  | 0, i, r, _, h => by cases h
  | d + 1, i, r, hi, h => by
    unfold shI at h
    split at h
    · rename_i r' hr
      obtain rfl := Option.some.inj h
      obtain ⟨a1, a2, a3, a4, a5⟩ := cyc_some nd (fun x => 0 ≤ x ∧ x < N) hP (n - 1) [(i : Int)] r' (by simp) (fun x hx => by rw [List.mem_singleton] at hx; subst hx; omega) trivial hr
      exact ⟨a3, a1, by rw [a2, List.length_singleton]; omega, a4, a5⟩
    · exact shI_some nd n N hP d (i + 1) r (by omega) h
theorem shO_some (nd : Int → List Int) (N : Nat) (hP : ∀ i : Int, (0 ≤ i ∧ i < N) → ∀ k, k ∈ nd i → 0 ≤ k ∧ k < N) : ∀ e n r, shO nd N e n = some r → (∀ x, x ∈ r → 0 ≤ x ∧ x < N) ∧ 0 < r.length ∧ r.length ≤ n + e ∧ Links nd r ∧ hd r ∈ nd (la r)
  | 0, n, r, h => by cases h
  | e + 1, n, r, h => by
    unfold shO at h
    split at h
    · rename_i r' hr
      obtain rfl := Option.some.inj h
      obtain ⟨a1, a2, a3, a4⟩ := shI_some nd n N hP N 0 r' (by omega) hr
      exact ⟨a1, a2, by omega, a4⟩
    · obtain ⟨a1, a2, a3, a4⟩ := shO_some nd N hP e (n + 1) r h
      exact ⟨a1, a2, by omega, a4⟩
/-- No cycle where all can be taught. -/
theorem sh_none (nd : Int → List Int) (N : Nat) (hP : ∀ i : Int, (0 ≤ i ∧ i < N) → ∀ k, k ∈ nd i → 0 ≤ k ∧ k < N) (D : List Int) (hg : Good nd N D) (hl : N ≤ D.length) (e n : Nat) : shO nd N e n = none := by
  cases h : shO nd N e n with
  | none => rfl
  | some r =>
    obtain ⟨a1, a2, _, a4, a5⟩ := shO_some nd N hP e n r h
    cases r with
    | nil => simp at a2
    | cons a c =>
      exact (no_cycle hg.nodup hg.teach c a (fun x hx => range_full hg.nodup hg.range hl x (a1 x hx).1 (a1 x hx).2) a4 (by rw [la_getLast]; exact a5)).elim
def sh (l : List S59) : Option (List Int) := shO (ndW l) l.length (l.length - 1) 2
def cycR (l : List S59) : List Int × Bool := if wordsB l then (match sh l with | some r => (r, true) | none => ([], false)) else ([], false)
theorem rd_hd (c : List Int) : rd c 0 = hd c := rdJ c 0
theorem rd_la (c : List Int) (h : 0 < c.length) (hl : c.length ≤ 1048576) : wrap64 ((c.length : Int) - 1) = ((c.length - 1 : Nat) : Int) ∧ rd c ((c.length - 1 : Nat) : Int) = la c := by
  have e : wrap64 ((c.length : Int) - 1) = ((c.length - 1 : Nat) : Int) := by rw [wrap_id (by omega) (by omega)]; omega
  exact ⟨e, by rw [rdJ]; rfl⟩
theorem shO_succ (nd : Int → List Int) (N e n : Nat) : shO nd N (e + 1) n = match shI nd n N 0 with
    | some r => some r
    | none => shO nd N e (n + 1) := rfl
def opt0 (o : Option (List Int)) : List Int := match o with
  | some r => r
  | none => []
/-! the program's -/
theorem implCyc_ev (l : List S59) (hw : wordsB l = true) (hz : WSz l) : ∀ (d : Nat) (c : List Int), 0 < c.length → c.length + d ≤ 1000 → (∀ x, x ∈ c → 0 ≤ x ∧ x < l.length) → Ev (fun k => impl_cycleFrom.f k l c ((c.length + d : Nat) : Int)) (opt0 (cyc (ndW l) d c)) := by
  have hl16 := (wordsB_len hw)
  intro d
  induction d with
  | zero =>
    intro c h0 hb hr
    obtain ⟨e1, e2⟩ := rd_la c h0 (by omega)
    have hlr := hr _ (la_mem c h0)
    have hnd := (wsz_at hz (show (la c).toNat < l.length by omega)).1
    refine Ev.succ ?_
    unfold cyc
    have hcond : (0 < c.length ∧ 0 ≤ ((c.length - 1 : Nat) : Int) ∧ ((c.length - 1 : Nat) : Int) < (c.length : Int) ∧ 0 ≤ la c ∧ la c < (l.length : Int)) = True := eq_true ⟨h0, by omega, by omega, hlr.1, hlr.2⟩
    simp only [impl_cycleFrom.f, e1, e2, rd_hd, rdwI, Nat.add_zero, hcond, if_true]
    refine Ev.bind (contains_ev _ (hd c) (by show (wat l (la c).toNat).f1.length < _; omega)) ?_
    show Ev (fun _ => if decide (hd c ∈ ndW l (la c)) = true then some c else some []) _
    by_cases hm : hd c ∈ ndW l (la c)
    · simp only [decide_eq_true hm, if_true, if_pos hm, opt0]
      exact Ev.now _
    · simp only [decide_eq_false hm, Bool.false_eq_true, if_false, if_neg hm, opt0]
      exact Ev.now _
  | succ d ih =>
    intro c h0 hb hr
    obtain ⟨e1, e2⟩ := rd_la c h0 (by omega)
    have hlr := hr _ (la_mem c h0)
    have hnd := (wsz_at hz (show (la c).toNat < l.length by omega)).1
    have hnr := nd_range hw (la c) hlr.1 hlr.2
    refine Ev.succ ?_
    have hne : ¬ (c.length : Int) = ((c.length + (d + 1) : Nat) : Int) := by omega
    unfold cyc
    have hcond : (0 < c.length ∧ 0 ≤ ((c.length - 1 : Nat) : Int) ∧ ((c.length - 1 : Nat) : Int) < (c.length : Int) ∧ 0 ≤ la c ∧ la c < (l.length : Int)) = True := eq_true ⟨h0, by omega, by omega, hlr.1, hlr.2⟩
    simp only [impl_cycleFrom.f, e1, e2, rd_hd, rdwI, hcond, if_true, eq_false hne, if_false]
    show Ev (fun k => impl_cycleFrom.l0 k l c ((c.length + (d + 1) : Nat) : Int) (ndW l (la c)) 0) _
    generalize hn : ndW l (la c) = n at *
    have hnl : n.length ≤ 1048576 := by rw [← hn]; exact hnd
    have key : ∀ e j, j + e = n.length → Ev (fun k => impl_cycleFrom.l0 k l c ((c.length + (d + 1) : Nat) : Int) n (j : Int)) (opt0 ((n.drop j).findSome? fun k => if decide (k > hd c) && !(decide (k ∈ c)) then cyc (ndW l) d (c ++ [k]) else none)) := by
      intro e
      induction e with
      | zero =>
        intro j hj
        refine Ev.succ ?_
        have g1 : ((j : Int) < (n.length : Int)) = False := eq_false (by omega)
        rw [List.drop_of_length_le (by omega)]
        simp only [impl_cycleFrom.l0, g1, if_false, List.findSome?_nil, opt0]
        exact Ev.now _
      | succ e ih2 =>
        intro j hj
        refine Ev.succ ?_
        have hlt : j < n.length := by omega
        have g1 : ((j : Int) < (n.length : Int)) = True := eq_true (by omega)
        have hg : n.getD j 0 = n[j] := by rw [List.getD_eq_getElem?_getD, List.getElem?_eq_getElem hlt]; rfl
        have e4 : wrap64 ((j : Int) + 1) = ((j + 1 : Nat) : Int) := wrap_succ (by omega)
        have hjr := hnr n[j] (List.getElem_mem hlt)
        rw [List.drop_eq_getElem_cons hlt, List.findSome?_cons]
        simp only [impl_cycleFrom.l0, g1, if_true, nat_nonneg, rdJ, hg, rd_hd, e4]
        by_cases h1 : n[j] < hd c
        · have h2 : decide (n[j] > hd c) = false := decide_eq_false (by omega)
          simp only [eq_true h1, if_true, h2, Bool.false_and, Bool.false_eq_true, if_false]
          exact ih2 (j + 1) (by omega)
        · simp only [eq_false h1, if_false]
          refine Ev.bind (contains_ev c n[j] (by omega)) ?_
          by_cases h3 : n[j] ∈ c
          · simp only [decide_eq_true h3, if_true, Bool.not_true, Bool.and_false, Bool.false_eq_true, if_false]
            exact ih2 (j + 1) (by omega)
          · have h2 : decide (n[j] > hd c) = true := decide_eq_true (by
              have : n[j] ≠ hd c := fun e => h3 (e ▸ hd_mem c h0)
              omega)
            simp only [decide_eq_false h3, Bool.false_eq_true, if_false, h2, Bool.not_false, Bool.and_true, if_true, cloneC_eq c (by omega), Option.bind_some, eq_true (show c.length < 17592186044416 by omega)]
            have hrec := ih (c ++ [n[j]]) (by simp) (by rw [List.length_append, List.length_singleton]; omega) (fun x hx => by
              rcases List.mem_append.1 hx with hx | hx
              · exact hr x hx
              · rw [List.mem_singleton] at hx; subst hx; exact hjr)
            have e5 : (((c ++ [n[j]]).length + d : Nat) : Int) = ((c.length + (d + 1) : Nat) : Int) := by rw [List.length_append, List.length_singleton]; omega
            rw [e5] at hrec
            refine Ev.bind hrec ?_
            cases hc : cyc (ndW l) d (c ++ [n[j]]) with
            | none =>
              simp only [opt0, List.length_nil, if_true]
              exact ih2 (j + 1) (by omega)
            | some r =>
              have hpos := cyc_len (ndW l) d (c ++ [n[j]]) r hc
              rw [List.length_append, List.length_singleton] at hpos
              simp only [opt0, eq_false (show ¬ r.length = 0 by omega), if_false]
              exact Ev.now _
    have := key n.length 0 (by omega)
    rw [List.drop_zero] at this
    exact this
theorem implSh_l1 (l : List S59) (hw : wordsB l = true) (hz : WSz l) (n : Nat) (r : List Int × Bool) (hn : 1 ≤ n) (hn2 : n ≤ 100) (hc : shI (ndW l) n l.length 0 = none ∨ True) (hnext : Ev (fun k => impl_CycleOf.l0 k l (wrap64 ((n : Int) + 1))) r) : ∀ d i, i + d = l.length → Ev (fun k => impl_CycleOf.l1 k l (n : Int) (i : Int)) (match shI (ndW l) n d i with | some x => (x, true) | none => r) := by
  have hl16 := wordsB_len hw
  intro d
  induction d with
  | zero =>
    intro i hi
    refine Ev.succ ?_
    have g1 : ((i : Int) < (l.length : Int)) = False := eq_false (by omega)
    simp only [impl_CycleOf.l1, g1, if_false, shI]
    exact hnext
  | succ d ih =>
    intro i hi
    refine Ev.succ ?_
    have g1 : ((i : Int) < (l.length : Int)) = True := eq_true (by omega)
    have e4 : wrap64 ((i : Int) + 1) = ((i + 1 : Nat) : Int) := wrap_succ (by omega)
    have hrec := implCyc_ev l hw hz (n - 1) [(i : Int)] (by simp) (by simp; omega) (fun x hx => by rw [List.mem_singleton] at hx; subst hx; omega)
    have e5 : ((([(i : Int)] : List Int).length + (n - 1) : Nat) : Int) = (n : Int) := by simp; omega
    rw [e5] at hrec
    simp only [impl_CycleOf.l1, g1, if_true, e4]
    refine Ev.bind hrec ?_
    unfold shI
    cases hc : cyc (ndW l) (n - 1) [(i : Int)] with
    | none =>
      simp only [opt0, List.length_nil, if_true]
      exact ih (i + 1) (by omega)
    | some x =>
      have hpos := cyc_len (ndW l) (n - 1) [(i : Int)] x hc
      rw [List.length_singleton] at hpos
      simp only [opt0, eq_false (show ¬ x.length = 0 by omega), if_false]
      exact Ev.now _
theorem implSh_l0 (l : List S59) (hw : wordsB l = true) (hz : WSz l) : ∀ (e n : Nat), 2 ≤ n → n ≤ 50 → n + e = max 2 (l.length + 1) → Ev (fun k => impl_CycleOf.l0 k l (n : Int)) (match shO (ndW l) l.length e n with | some x => (x, true) | none => ([], false)) := by
  have hl16 := wordsB_len hw
  intro e
  induction e with
  | zero =>
    intro n h2 h50 hn
    refine Ev.succ ?_
    have g1 : ((n : Int) ≤ (l.length : Int)) = False := eq_false (by omega)
    simp only [impl_CycleOf.l0, g1, if_false, shO]
    exact Ev.now _
  | succ e ih =>
    intro n h2 h50 hn
    refine Ev.succ ?_
    have g1 : ((n : Int) ≤ (l.length : Int)) = True := eq_true (by omega)
    have hnext := ih (n + 1) (by omega) (by omega) (by omega)
    simp only [impl_CycleOf.l0, g1, if_true]
    refine Ev.eq (implSh_l1 l hw hz n _ (by omega) (by omega) (Or.inr trivial) (by rw [wrap_succ (show n < 4611686018427387904 by omega)]; exact hnext) l.length 0 (by omega)) ?_
    rw [shO_succ]
    cases shI (ndW l) n l.length 0 <;> rfl
theorem implCycle_ev (l : List S59) (hl : l.length ≤ 1048576) (hz : WSz l) : Ev (fun k => impl_CycleOf.f k l) (cycR l) := by
  unfold impl_CycleOf.f cycR
  refine Ev.bind (areWords_ev l hl hz) ?_
  cases hw : wordsB l with
  | false =>
    simp only [Bool.false_eq_true, if_false]
    exact Ev.now _
  | true =>
    have hl16 := wordsB_len hw
    simp only [if_true]
    exact implSh_l0 l hw hz (l.length - 1) 2 (by omega) (by omega) (by omega)
/-! the reference's -/
theorem specCyc_ev (l : List S59) (hw : wordsB l = true) (hz : WSz l) : ∀ (d : Nat) (c : List Int), 0 < c.length → c.length + d ≤ 1000 → (∀ x, x ∈ c → 0 ≤ x ∧ x < l.length) → ∃ R : List Int × Bool, Ev (fun k => spec_leCycle.f k l c ((c.length + d : Nat) : Int)) R ∧ (∀ x, cyc (ndW l) d c = some x → R = (x, true)) ∧ (cyc (ndW l) d c = none → R.2 = false) := by
  have hl16 := wordsB_len hw
  intro d
  induction d with
  | zero =>
    intro c h0 hb hr
    obtain ⟨e1, e2⟩ := rd_la c h0 (by omega)
    have hlr := hr _ (la_mem c h0)
    have hnd := (wsz_at hz (show (la c).toNat < l.length by omega)).1
    refine ⟨(c, decide (hd c ∈ ndW l (la c))), Ev.succ ?_, ?_, ?_⟩
    · simp only [spec_leCycle.f, e1, e2, rd_hd, rdwI, Nat.add_zero, nat_nonneg, if_true, eq_true (show ((c.length - 1 : Nat) : Int) < (c.length : Int) by omega), eq_true hlr.1, eq_true hlr.2, eq_true (show (0 : Int) < (c.length : Int) by omega)]
      refine Ev.bind (l1Has_ev _ (hd c) (by show (wat l (la c).toNat).f1.length < _; omega)) ?_
      exact Ev.now _
    · intro x hx
      unfold cyc at hx
      split at hx
      · rename_i hm
        obtain rfl := Option.some.inj hx
        rw [decide_eq_true hm]
      · cases hx
    · intro hx
      unfold cyc at hx
      split at hx
      · cases hx
      · rename_i hm
        exact decide_eq_false hm
  | succ d ih =>
    intro c h0 hb hr
    obtain ⟨e1, e2⟩ := rd_la c h0 (by omega)
    have hlr := hr _ (la_mem c h0)
    have hnd := (wsz_at hz (show (la c).toNat < l.length by omega)).1
    have hnr := nd_range hw (la c) hlr.1 hlr.2
    have hne : ¬ (c.length : Int) = ((c.length + (d + 1) : Nat) : Int) := by omega
    have key : ∀ e j, j + e = (ndW l (la c)).length → ∃ R : List Int × Bool, Ev (fun k => spec_leCycle.l0 k l c ((c.length + (d + 1) : Nat) : Int) (ndW l (la c)) ((ndW l (la c)).length : Int) (j : Int)) R ∧ (∀ x, (((ndW l (la c)).drop j).findSome? fun k => if decide (k > hd c) && !(decide (k ∈ c)) then cyc (ndW l) d (c ++ [k]) else none) = some x → R = (x, true)) ∧ ((((ndW l (la c)).drop j).findSome? fun k => if decide (k > hd c) && !(decide (k ∈ c)) then cyc (ndW l) d (c ++ [k]) else none) = none → R.2 = false) := by
      have hnl : (ndW l (la c)).length ≤ 1048576 := hnd
      generalize ndW l (la c) = n at *
      intro e
      induction e with
      | zero =>
        intro j hj
        refine ⟨([], false), Ev.succ ?_, fun x hx => ?_, fun _ => rfl⟩
        · have g1 : ((j : Int) < (n.length : Int)) = False := eq_false (by omega)
          simp only [spec_leCycle.l0, g1, if_false]
          exact Ev.now _
        · rw [List.drop_of_length_le (by omega)] at hx
          cases hx
      | succ e ih2 =>
        intro j hj
        have hlt : j < n.length := by omega
        have g1 : ((j : Int) < (n.length : Int)) = True := eq_true (by omega)
        have hg : n.getD j 0 = n[j] := by rw [List.getD_eq_getElem?_getD, List.getElem?_eq_getElem hlt]; rfl
        have e4 : wrap64 ((j : Int) + 1) = ((j + 1 : Nat) : Int) := wrap_succ (by omega)
        have hjr := hnr n[j] (List.getElem_mem hlt)
        have g2 : ((0 : Int) < (c.length : Int)) = True := eq_true (by omega)
        obtain ⟨R, hR, hR1, hR2⟩ := ih2 (j + 1) (by omega)
        rw [List.drop_eq_getElem_cons hlt, List.findSome?_cons]
        by_cases h1 : n[j] > hd c
        · by_cases h3 : n[j] ∈ c
          · refine ⟨R, Ev.succ ?_, fun x hx => hR1 x ?_, fun hx => hR2 ?_⟩
            · simp only [spec_leCycle.l0, g1, g2, if_true, nat_nonneg, rdJ, hg, rd_hd, eq_true h1]
              refine Ev.bind (l1Has_ev c n[j] (by omega)) ?_
              refine Ev.succ ?_
              simp only [spec_leCycle.j1, decide_eq_true h3, Bool.not_true, Bool.false_eq_true, if_false, e4]
              exact hR
            · simpa only [decide_eq_true h1, decide_eq_true h3, Bool.not_true, Bool.and_false, Bool.false_eq_true, if_false] using hx
            · simpa only [decide_eq_true h1, decide_eq_true h3, Bool.not_true, Bool.and_false, Bool.false_eq_true, if_false] using hx
          · obtain ⟨Q, hQ, hQ1, hQ2⟩ := ih (c ++ [n[j]]) (by simp) (by rw [List.length_append, List.length_singleton]; omega) (fun x hx => by
              rcases List.mem_append.1 hx with hx | hx
              · exact hr x hx
              · rw [List.mem_singleton] at hx; subst hx; exact hjr)
            have e5 : (((c ++ [n[j]]).length + d : Nat) : Int) = ((c.length + (d + 1) : Nat) : Int) := by rw [List.length_append, List.length_singleton]; omega
            rw [e5] at hQ
            have stepQ : ∀ R', Ev (fun k => if Q.2 = true then some (Q.1, true) else spec_leCycle.l0 k l c ((c.length + (d + 1) : Nat) : Int) n (n.length : Int) ((j + 1 : Nat) : Int)) R' → Ev (fun k => spec_leCycle.l0 k l c ((c.length + (d + 1) : Nat) : Int) n (n.length : Int) (j : Int)) R' := by
              intro R' h'
              refine Ev.succ ?_
              simp only [spec_leCycle.l0, g1, g2, if_true, nat_nonneg, rdJ, hg, rd_hd, eq_true h1]
              refine Ev.bind (l1Has_ev c n[j] (by omega)) ?_
              refine Ev.succ ?_
              simp only [spec_leCycle.j1, decide_eq_false h3, Bool.not_false, if_true, ownC_eq c (by omega), Option.bind_some, eq_true (show c.length < 17592186044416 by omega), e4]
              exact Ev.bind hQ h'
            cases hc : cyc (ndW l) d (c ++ [n[j]]) with
            | some x =>
              have hq := hQ1 x hc
              refine ⟨(x, true), stepQ _ ?_, fun y hy => ?_, fun hy => ?_⟩
              · rw [hq]
                simp only [if_true]
                exact Ev.now _
              · have h9 : some x = some y := by simpa only [decide_eq_true h1, decide_eq_false h3, Bool.not_false, Bool.and_true, Bool.true_and, if_true, hc] using hy
                rw [Option.some.inj h9]
              · have h9 : some x = none := by simpa only [decide_eq_true h1, decide_eq_false h3, Bool.not_false, Bool.and_true, Bool.true_and, if_true, hc] using hy
                cases h9
            | none =>
              have hq := hQ2 hc
              refine ⟨R, stepQ _ ?_, fun y hy => hR1 y ?_, fun hy => hR2 ?_⟩
              · rw [hq]
                simp only [Bool.false_eq_true, if_false]
                exact hR
              · simpa only [decide_eq_true h1, decide_eq_false h3, Bool.not_false, Bool.and_true, Bool.true_and, if_true, hc] using hy
              · simpa only [decide_eq_true h1, decide_eq_false h3, Bool.not_false, Bool.and_true, Bool.true_and, if_true, hc] using hy
        · refine ⟨R, Ev.succ ?_, fun x hx => hR1 x ?_, fun hx => hR2 ?_⟩
          · simp only [spec_leCycle.l0, g1, g2, if_true, nat_nonneg, rdJ, hg, rd_hd, eq_false h1, if_false]
            refine Ev.succ ?_
            simp only [spec_leCycle.j1, Bool.false_eq_true, if_false, e4]
            exact hR
          · simpa only [decide_eq_false h1, Bool.false_and, Bool.false_eq_true, if_false] using hx
          · simpa only [decide_eq_false h1, Bool.false_and, Bool.false_eq_true, if_false] using hx
    obtain ⟨R, hR, hR1, hR2⟩ := key (ndW l (la c)).length 0 (by omega)
    refine ⟨R, Ev.succ ?_, hR1, hR2⟩
    simp only [spec_leCycle.f, e1, e2, rd_hd, rdwI, nat_nonneg, if_true, eq_true (show ((c.length - 1 : Nat) : Int) < (c.length : Int) by omega), eq_true hlr.1, eq_true hlr.2, eq_false hne, if_false]
    exact hR
theorem specSh_l1 (l : List S59) (hw : wordsB l = true) (hz : WSz l) (n : Nat) (r : List Int × Bool) (hn : 1 ≤ n) (hn2 : n ≤ 100) (hnext : Ev (fun k => spec_leShortest.l0 k l (wrap64 ((n : Int) + 1))) r) : ∀ d i, i + d = l.length → Ev (fun k => spec_leShortest.l1 k l (n : Int) (l.length : Int) (i : Int)) (match shI (ndW l) n d i with | some x => (x, true) | none => r) := by
  have hl16 := wordsB_len hw
  intro d
  induction d with
  | zero =>
    intro i hi
    refine Ev.succ ?_
    have g1 : ((i : Int) < (l.length : Int)) = False := eq_false (by omega)
    simp only [spec_leShortest.l1, g1, if_false, shI]
    exact hnext
  | succ d ih =>
    intro i hi
    refine Ev.succ ?_
    have g1 : ((i : Int) < (l.length : Int)) = True := eq_true (by omega)
    have e4 : wrap64 ((i : Int) + 1) = ((i + 1 : Nat) : Int) := wrap_succ (by omega)
    obtain ⟨Q, hQ, hQ1, hQ2⟩ := specCyc_ev l hw hz (n - 1) [(i : Int)] (by simp) (by simp; omega) (fun x hx => by rw [List.mem_singleton] at hx; subst hx; omega)
    have e5 : ((([(i : Int)] : List Int).length + (n - 1) : Nat) : Int) = (n : Int) := by simp; omega
    rw [e5] at hQ
    simp only [spec_leShortest.l1, g1, if_true, e4]
    refine Ev.bind hQ ?_
    unfold shI
    cases hc : cyc (ndW l) (n - 1) [(i : Int)] with
    | none =>
      rw [hQ2 hc]
      simp only [Bool.false_eq_true, if_false]
      exact ih (i + 1) (by omega)
    | some x =>
      rw [hQ1 x hc]
      simp only [if_true]
      exact Ev.now _
theorem specSh_l0 (l : List S59) (hw : wordsB l = true) (hz : WSz l) : ∀ (e n : Nat), 2 ≤ n → n ≤ 50 → n + e = max 2 (l.length + 1) → Ev (fun k => spec_leShortest.l0 k l (n : Int)) (match shO (ndW l) l.length e n with | some x => (x, true) | none => ([], false)) := by
  have hl16 := wordsB_len hw
  intro e
  induction e with
  | zero =>
    intro n h2 h50 hn
    refine Ev.succ ?_
    have g1 : ((n : Int) ≤ (l.length : Int)) = False := eq_false (by omega)
    simp only [spec_leShortest.l0, g1, if_false, shO]
    exact Ev.now _
  | succ e ih =>
    intro n h2 h50 hn
    refine Ev.succ ?_
    have g1 : ((n : Int) ≤ (l.length : Int)) = True := eq_true (by omega)
    have hnext := ih (n + 1) (by omega) (by omega) (by omega)
    simp only [spec_leShortest.l0, g1, if_true]
    refine Ev.eq (specSh_l1 l hw hz n _ (by omega) (by omega) (by rw [wrap_succ (show n < 4611686018427387904 by omega)]; exact hnext) l.length 0 (by omega)) ?_
    rw [shO_succ]
    cases shI (ndW l) n l.length 0 <;> rfl
theorem specCycle_ev (l : List S59) (hl : l.length ≤ 1048576) (hz : WSz l) : Ev (fun k => spec_CycleOf.f k l) (cycR l) := by
  unfold spec_CycleOf.f cycR
  refine Ev.bind (leGood_ev l hl hz) ?_
  cases hw : wordsB l with
  | false =>
    simp only [Bool.false_eq_true, if_false]
    exact Ev.now _
  | true =>
    have hl16 := wordsB_len hw
    simp only [if_true]
    refine Ev.bind (leOrder_ev l hz hl) ?_
    obtain ⟨hg, hs⟩ := ordW_facts l
    by_cases h : (ordW l).length = l.length
    · have h2 : (((ordW l).length : Int) = (l.length : Int)) = True := eq_true (by omega)
      simp only [h2, if_true]
      unfold sh
      rw [sh_none (ndW l) l.length (fun i hi => nd_range hw i hi.1 hi.2) (ordW l) hg (by omega)]
      exact Ev.now _
    · have h2 : (((ordW l).length : Int) = (l.length : Int)) = False := eq_false (by omega)
      simp only [h2, if_false]
      unfold sh
      have := specSh_l0 l hw hz (l.length - 1) 2 (by omega) (by omega) (by omega)
      refine Ev.bind (show Ev (fun k => spec_leShortest.f k l) _ from this) ?_
      exact Ev.now _
theorem strOfNums_one (x : Int) : (strOfNums [x]).size = 1 := by simp [strOfNums, ByteArray.size]
theorem markText_l0 : ∀ (n : Nat) (a : Int) (s : ByteArray), 0 ≤ a → a.toNat ≤ n → a ≤ 1000000000 → s.size + n ≤ 2000000000 → ∃ r, Ev (fun k => laws_markText.l0 k a s) r := by
  intro n
  induction n with
  | zero =>
    intro a s h0 h1 h2 h3
    refine ⟨(⟨#[109]⟩ : ByteArray) ++ s, Ev.succ ?_⟩
    have h4 : (a > 0) = False := eq_false (by omega)
    have h5 : (1 + s.size ≤ 9223372036854775807) = True := eq_true (by omega)
    simp only [laws_markText.l0, h4, h5, if_true, if_false]
    exact Ev.now _
  | succ n ih =>
    intro a s h0 h1 h2 h3
    by_cases h : a > 0
    · have hd := Int.tdiv_eq_ediv_of_nonneg (b := 10) h0
      have h7 : Int.tdiv a 10 < a ∧ 0 ≤ Int.tdiv a 10 := by rw [hd]; omega
      have hx : (strOfNums [(wrap64 (48 + Int.tmod a 10)) % 256]).size = 1 := strOfNums_one _
      have h5 : ((strOfNums [(wrap64 (48 + Int.tmod a 10)) % 256]).size + s.size ≤ 9223372036854775807) = True := eq_true (by omega)
      obtain ⟨r, hr⟩ := ih (Int.tdiv a 10) (strOfNums [(wrap64 (48 + Int.tmod a 10)) % 256] ++ s) h7.2 (by omega) (by omega) (by rw [ByteArray.size_append]; omega)
      refine ⟨r, Ev.succ ?_⟩
      simp only [laws_markText.l0, eq_true h, h5, if_true, Option.bind_some, wrap_id (x := Int.tdiv a 10) (by omega) (by omega)]
      exact hr
    · refine ⟨(⟨#[109]⟩ : ByteArray) ++ s, Ev.succ ?_⟩
      have h5 : (1 + s.size ≤ 9223372036854775807) = True := eq_true (by omega)
      simp only [laws_markText.l0, eq_false h, h5, if_true, if_false]
      exact Ev.now _
theorem markText_some (a : Int) (ha : a ≤ 1000000000) : ∃ r, Ev (fun k => laws_markText.f k a) r := by
  unfold laws_markText.f
  by_cases h : a ≤ 0
  · simp only [eq_true h, if_true]
    exact ⟨_, Ev.now _⟩
  · simp only [eq_false h, if_false]
    exact markText_l0 a.toNat a _ (by omega) (Nat.le_refl _) ha (by simp [ByteArray.size]; omega)
/-- The mark's text. -/
noncomputable def mtext (a : Int) : ByteArray := @dite _ (∃ r, Ev (fun k => laws_markText.f k a) r) (Classical.propDecidable _) (fun h => Classical.choose h) (fun _ => ByteArray.empty)
theorem markText_ev (a : Int) (ha : a ≤ 1000000000) : Ev (fun k => laws_markText.f k a) (mtext a) := by
  unfold mtext
  rw [dif_pos (markText_some a ha)]
  exact Classical.choose_spec (markText_some a ha)
def markInts (a : Int) (n : Nat) : List Int := (List.range n).map fun i : Nat => a + (i : Int)
theorem markInts_length (a : Int) (n : Nat) : (markInts a n).length = n := by simp [markInts]
theorem markInts_succ (a : Int) (n : Nat) : markInts a (n + 1) = markInts a n ++ [a + n] := by simp [markInts, List.range_succ]
theorem markInts_get (a : Int) (n j : Nat) (h : j < n) : (markInts a n).getD j 0 = a + j := by
  simp [markInts, List.getD_eq_getElem?_getD, h]
theorem markIntS_ev (l : List Int) (a : Int) (h0 : 0 ≤ a) (ha : a + l.length < 4611686018427387904) : Ev (fun k => laws_markIntS.f k l a) (a + l.length, markInts a l.length) := by
  unfold laws_markIntS.f
  have key := Ev.upto (L := fun k j => laws_markIntS.l0 k (markInts a j ++ l.drop j) (a + j) (j : Int)) (r := (a + l.length, markInts a l.length)) (n := l.length)
    (by
      refine Ev.succ ?_
      have hlen : (markInts a l.length ++ l.drop l.length).length = l.length := by simp [markInts_length]
      simp only [laws_markIntS.l0, hlen, Int.lt_irrefl, if_false]
      simp only [List.drop_length, List.append_nil]
      exact Ev.now _)
    (by
      intro j hj h
      refine Ev.succ ?_
      have hlen : (markInts a j ++ l.drop j).length = l.length := by simp [markInts_length]; omega
      have h1 : ((j : Int) < (l.length : Int)) = True := eq_true (by omega)
      have e : (markInts a j ++ l.drop j).set j (a + j) = markInts a (j + 1) ++ l.drop (j + 1) := by
        rw [List.set_append_right _ _ (by simp [markInts_length]), markInts_length, Nat.sub_self, List.drop_eq_getElem_cons hj, List.set_cons_zero, markInts_succ, List.append_assoc]
        rfl
      simp only [laws_markIntS.l0, hlen, h1, if_true, nat_nonneg, Int.toNat_natCast, e, wrap_succ (show j < 4611686018427387904 by omega), wrap_id (x := a + (j : Int) + 1) (by omega) (by omega)]
      rw [show a + (j : Int) + 1 = a + ((j + 1 : Nat) : Int) by omega]
      exact h)
    0 (Nat.zero_le _)
  simpa [markInts] using key
theorem heldIntS_ev (n : Nat) (a : Int) (h0 : 0 ≤ a) (ha : a + n < 4611686018427387904) : Ev (fun k => laws_heldIntS.f k (markInts a n) a) (a + n) := by
  unfold laws_heldIntS.f
  have key := Ev.upto (L := fun k j => laws_heldIntS.l0 k (markInts a n) (a + j) (j : Int)) (r := a + (n : Int)) (n := n)
    (by
      refine Ev.succ ?_
      simp only [laws_heldIntS.l0, markInts_length, Int.lt_irrefl, if_false]
      exact Ev.now _)
    (by
      intro j hj h
      refine Ev.succ ?_
      have h1 : ((j : Int) < (n : Int)) = True := eq_true (by omega)
      simp only [laws_heldIntS.l0, markInts_length, h1, if_true, nat_nonneg, rdI, markInts_get a n j hj, wrap_succ (show j < 4611686018427387904 by omega), wrap_id (x := a + (j : Int) + 1) (by omega) (by omega)]
      rw [show a + (j : Int) + 1 = a + ((j + 1 : Nat) : Int) by omega]
      exact h)
    0 (Nat.zero_le _)
  simpa using key
def wconv (x : S54) : S59 := ⟨x.f0, x.f1, x.f2⟩
theorem toWordS_ev (l : List S54) (hl : l.length * 48 ≤ 140737488351232) (hz : ∀ y, y ∈ l → B54 y) : Ev (fun k => laws_toWordS.f k l) (l.map wconv) := by
  unfold laws_toWordS.f
  simp only [nat_nonneg, if_true, Int.toNat_natCast, show (l.length ≤ 5864062014805) = True from eq_true (by omega)]
  refine Ev.copy wconv l z54 z59 (fun k s j => laws_toWordS.l0 k l s j) ?_ ?_
  · intro j s r hj hs h
    refine Ev.succ ?_
    have h1 : ((j : Int) < (l.length : Int)) = True := eq_true (by omega)
    have hy := hz (l.getD j z54) (by rw [List.getD_eq_getElem?_getD, List.getElem?_eq_getElem hj]; exact List.getElem_mem hj)
    simp only [laws_toWordS.l0, h1, if_true, nat_nonneg, hs, Int.toNat_natCast, wrap_succ (show j < 4611686018427387904 by omega), rdwL]
    unfold laws_toWord.f
    refine Ev.bind (Ev.bind (toIntS_ev _ hy.2.1.1) (Ev.now _)) ?_
    exact h
  · intro s hs
    refine Ev.succ ?_
    simp only [laws_toWordS.l0, Int.lt_irrefl, if_false]
    exact Ev.now _
theorem eqWordS_ev (l : List S59) (hl : l.length < 4611686018427387904) (hz : WSz l) : Ev (fun k => laws_eqWordS.f k l l) true := by
  unfold laws_eqWordS.f
  simp only [if_true]
  exact Ev.upto (L := fun k j => laws_eqWordS.l0 k l l (j : Int)) (r := true) (n := l.length)
    (by
      refine Ev.succ ?_
      simp only [laws_eqWordS.l0, Int.lt_irrefl, if_false]
      exact Ev.now _)
    (by
      intro j hj h
      refine Ev.succ ?_
      have h1 : ((j : Int) < (l.length : Int)) = True := eq_true (by omega)
      have := wsz_at hz hj
      simp only [laws_eqWordS.l0, h1, if_true, nat_nonneg, wrap_succ (show j < 4611686018427387904 by omega), rdw]
      unfold laws_eqWord.f
      simp only [if_true]
      refine Ev.bind (Ev.bind (eqIntS_ev _ (by omega)) (by simp only [if_true]; exact Ev.now _)) ?_
      simp only [if_true]
      exact h)
    0 (Nat.zero_le _)
/-- How many numbers and bytes there are in all. -/
def wsum : List S54 → Nat
  | [] => 0
  | x :: l => x.f0.size + x.f1.length + wsum l
theorem wsum_mem : ∀ {l : List S54} {x}, x ∈ l → x.f0.size + x.f1.length ≤ wsum l
  | y :: l, x, h => by
    rcases List.mem_cons.1 h with rfl | h
    · simp [wsum]
    · have := wsum_mem h
      simp only [wsum]
      omega
theorem szWord_eq (x : S54) (a : Int) (h0 : x.f0.size ≤ 140737488351232) (h1 : x.f1.length * 8 ≤ 140737488351232) (ha0 : 0 ≤ a) (ha1 : a ≤ 1048576) : laws_szWord.f x.f0 x.f1 x.f2 a = some (if a - (x.f0.size : Int) - (x.f1.length : Int) < 0 then -1 else a - (x.f0.size : Int) - (x.f1.length : Int)) := by
  unfold laws_szWord.f laws_szIntS.f
  rw [wrap_id (x := a - (x.f0.size : Int)) (by omega) (by omega), wrap_id (x := a - (x.f0.size : Int) - (x.f1.length : Int)) (by omega) (by omega)]
  by_cases h2 : a - (x.f0.size : Int) < 0
  · simp only [eq_true h2, if_true, show (a - (x.f0.size : Int) - (x.f1.length : Int) < 0) = True from eq_true (by omega)]
  · by_cases h3 : a - (x.f0.size : Int) - (x.f1.length : Int) < 0
    · simp only [eq_false h2, eq_true h3, if_true, if_false, Option.bind_some, show ((-1 : Int) < 0) = True from eq_true (by decide)]
    · simp only [eq_false h2, eq_false h3, if_false, Option.bind_some]
theorem szWordS_ev (l : List S54) (hl : l.length * 48 ≤ 140737488351232) (hz : ∀ y, y ∈ l → B54 y) : ∃ r, (0 ≤ r → l.length + wsum l ≤ 1048576 ∧ r ≤ 1048576) ∧ Ev (fun k => laws_szWordS.f k l 1048576) r := by
  unfold laws_szWordS.f
  rw [wrap_id (x := 1048576 - (l.length : Int)) (by omega) (by omega)]
  by_cases h0 : (1048576 : Int) - l.length < 0
  · refine ⟨-1, fun h => absurd h (by decide), ?_⟩
    simp only [eq_true h0, if_true]
    exact Ev.now _
  · have key : ∀ n j, j + n = l.length → ∀ a : Int, 0 ≤ a → a ≤ 1048576 → ∃ r, (0 ≤ r → (wsum (l.drop j) : Int) ≤ a ∧ r ≤ 1048576) ∧ Ev (fun k => laws_szWordS.l0 k l a (j : Int)) r := by
      intro n
      induction n with
      | zero =>
        intro j hj a ha0 ha1
        have hj' : j = l.length := by omega
        refine ⟨a, fun _ => ⟨by rw [hj', List.drop_length]; simpa [wsum] using ha0, ha1⟩, Ev.succ ?_⟩
        have h1 : ((j : Int) < (l.length : Int)) = False := eq_false (by omega)
        simp only [laws_szWordS.l0, h1, if_false]
        exact Ev.now _
      | succ n ih =>
        intro j hj a ha0 ha1
        have hlt : j < l.length := by omega
        have h1 : ((j : Int) < (l.length : Int)) = True := eq_true (by omega)
        have hg : l.getD j z54 = l[j] := by rw [List.getD_eq_getElem?_getD, List.getElem?_eq_getElem hlt]; rfl
        have hy := hz l[j] (List.getElem_mem hlt)
        have hd : wsum (l.drop j) = l[j].f0.size + l[j].f1.length + wsum (l.drop (j + 1)) := by rw [List.drop_eq_getElem_cons hlt]; rfl
        by_cases hc : a - (l[j].f0.size : Int) - (l[j].f1.length : Int) < 0
        · refine ⟨-1, fun h => absurd h (by decide), Ev.succ ?_⟩
          simp only [laws_szWordS.l0, h1, if_true, nat_nonneg, rdwL, hg, szWord_eq l[j] a hy.1 hy.2.1.1 ha0 ha1, eq_true hc, Option.bind_some, show ((-1 : Int) < 0) = True from eq_true (by decide)]
          exact Ev.now _
        · obtain ⟨r, h3, h4⟩ := ih (j + 1) (by omega) (a - (l[j].f0.size : Int) - (l[j].f1.length : Int)) (by omega) (by omega)
          refine ⟨r, fun h => ⟨by have := (h3 h).1; rw [hd]; omega, (h3 h).2⟩, Ev.succ ?_⟩
          simp only [laws_szWordS.l0, h1, if_true, nat_nonneg, rdwL, hg, szWord_eq l[j] a hy.1 hy.2.1.1 ha0 ha1, eq_false hc, if_false, Option.bind_some, wrap_succ (show j < 4611686018427387904 by omega)]
          exact h4
    obtain ⟨r, h3, h4⟩ := key l.length 0 (by omega) (1048576 - (l.length : Int)) (by omega) (by omega)
    refine ⟨r, fun h => ⟨by have := (h3 h).1; simp only [List.drop_zero] at this; omega, (h3 h).2⟩, ?_⟩
    simp only [eq_false h0, if_false]
    exact h4
theorem wsz_map (l : List S54) (h : wsum l ≤ 1048576) : WSz (l.map wconv) := by
  intro q hq
  obtain ⟨x, hx, rfl⟩ := List.mem_map.1 hq
  have := wsum_mem hx
  exact ⟨by show x.f1.length ≤ 1048576; omega, by show x.f0.size ≤ 1048576; omega⟩
/-! lists of lists of numbers -/
noncomputable def wmark (a : Int) (x : S59) : S59 := ⟨mtext a, markInts (a + 1) x.f1.length, a + 1 + x.f1.length⟩
def wcnt (x : S59) : Nat := x.f1.length + 2
theorem wmarks_le : ∀ (l : List S54) (a : Int), markEnd wcnt a (l.map wconv) ≤ a + 2 * l.length + wsum l
  | [], a => by simp [markEnd, wsum]
  | x :: r, a => by
    have h := wmarks_le r (a + wcnt (wconv x))
    have e : wcnt (wconv x) = x.f1.length + 2 := rfl
    have e2 : wsum (x :: r) = x.f0.size + x.f1.length + wsum r := rfl
    simp only [List.map_cons, markEnd, List.length_cons]
    omega
theorem markWordS_ev (l : List S59) (a : Int) (hl : l.length ≤ 1048576) (h0 : 0 ≤ a) (ha : markEnd wcnt a l ≤ 1000000000) : Ev (fun k => laws_markWordS.f k l a) (markEnd wcnt a l, markAll wmark wcnt a l) := by
  unfold laws_markWordS.f
  refine Ev.mark wmark wcnt z59 1000000000 l.length (fun k s a j => laws_markWordS.l0 k s a j) ?_ ?_ l a rfl h0 ha
  · intro s j a r hj hs h0 h1 h
    refine Ev.succ ?_
    have h1' : a + (((s.getD j z59).f1.length + 2 : Nat) : Int) ≤ 1000000000 := h1
    have e : (rd_T59 s (j : Int)) = s.getD j z59 := rdw s j
    have h3 : ((j : Int) < (s.length : Int)) = True := eq_true (by omega)
    have e4 : wrap64 ((j : Int) + 1) = ((j + 1 : Nat) : Int) := wrap_succ (by omega)
    simp only [laws_markWordS.l0, h3, if_true, nat_nonneg, e, Int.toNat_natCast, e4, wrap_id (x := a + 1) (by omega) (by omega)]
    refine Ev.bind (markText_ev a (by omega)) ?_
    refine Ev.bind (markIntS_ev _ (a + 1) (by omega) (by omega)) ?_
    have e3 : wrap64 (a + 1 + ((s.getD j z59).f1.length : Int) + 1) = a + ((wcnt (s.getD j z59) : Nat) : Int) := by rw [wrap_id (by omega) (by omega)]; unfold wcnt; omega
    rw [e3]
    exact h
  · intro s a hs
    refine Ev.succ ?_
    simp only [laws_markWordS.l0, hs, Int.lt_irrefl, if_false]
    exact Ev.now _
/-! lists of lists -/
end Go.Proofs.Ythcedgbjpkgoeaa.Pure
namespace Go.Proofs.Ythcedgbjpkgoeaa.Pure
open Go.RowKit Go.Proofs.Ythcedgbjpkgoeaa.Q Go.Proofs.YthcedgbjpkgoeaaW.PrintWords Go.Proofs.YthcedgbjpkgoeaaW.PrintLast

theorem cycR_len (l : List S59) : (cycR l).1.length ≤ 1000 := by
  unfold cycR
  cases hw : wordsB l with
  | false => simp
  | true =>
    have hl16 := wordsB_len hw
    simp only [if_true]
    unfold sh
    cases h : shO (ndW l) l.length (l.length - 1) 2 with
    | none => simp
    | some r =>
      obtain ⟨_, _, a3, _⟩ := shO_some (ndW l) l.length (fun i hi => nd_range hw i hi.1 hi.2) _ _ r h
      show r.length ≤ 1000
      omega
theorem FnExactCycleOf : laws_FnExactCycleOf.Pure := by
  intro l h hz
  refine Ev.rounds ?_
  unfold laws_FnExactCycleOf.f
  obtain ⟨r, hb, hr⟩ := szWordS_ev l h hz
  refine Ev.bind hr ?_
  by_cases h0 : r < 0
  · simp only [eq_true h0, if_true]
    exact Ev.now _
  simp only [eq_false h0, if_false]
  obtain ⟨hb1, hb2⟩ := hb (by omega)
  have hk : (l.map wconv).length ≤ 1048576 := by rw [List.length_map]; omega
  have hs := wsz_map l (by omega)
  have hsp := specCycle_ev (l.map wconv) hk hs
  have hi := implCycle_ev (l.map wconv) hk hs
  have hW := cycR_len (l.map wconv)
  generalize cycR (l.map wconv) = W at hsp hi hW
  refine Ev.bind (toWordS_ev l h hz) ?_
  refine Ev.bind hsp ?_
  refine Ev.bind (toWordS_ev l h hz) ?_
  refine Ev.bind hi ?_
  refine Ev.bind (eqIntS_ev _ (by omega)) ?_
  simp only [if_true]
  refine Ev.bind (toWordS_ev l h hz) ?_
  refine Ev.bind (eqWordS_ev _ (by omega) hs) ?_
  simp only [if_true]
  have hm := wmarks_le l 1
  have hg := markEnd_ge wcnt (l.map wconv) 1
  refine Ev.bind (markWordS_ev _ 1 hk (by decide) (by omega)) ?_
  simp only [show (markEnd wcnt 1 (l.map wconv) < 0) = False from eq_false (by omega), if_false]
  refine Ev.bind (eqIntS_ev _ (by omega)) ?_
  simp only [if_true]
  refine Ev.bind (markIntS_ev W.1 1 (by decide) (by omega)) ?_
  refine Ev.bind (heldIntS_ev W.1.length 1 (by decide) (by omega)) ?_
  simp only [show (1 + (W.1.length : Int) < 0) = False from eq_false (by omega), if_false, if_true]
  refine Ev.bind (toWordS_ev l h hz) ?_
  refine Ev.bind hi ?_
  refine Ev.bind (eqIntS_ev _ (by omega)) ?_
  simp only [if_true]
  refine Ev.bind (heldIntS_ev W.1.length 1 (by decide) (by omega)) ?_
  simp only [show (1 + (W.1.length : Int) < 0) = False from eq_false (by omega), if_false, if_true]
  exact Ev.now _
end Go.Proofs.Ythcedgbjpkgoeaa.Pure
