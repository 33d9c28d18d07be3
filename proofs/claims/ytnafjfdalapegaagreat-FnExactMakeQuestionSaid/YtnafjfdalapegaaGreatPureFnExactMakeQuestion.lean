/- For all words, lessons and numbers, the program's MakeQuestion returns what the reference's MakeQuestion returns, anew and of its own, and leaves both lists alone. No condition. -/
import Derived.Test.YtnafjfdalapegaaGreatQBImplHasNeeds1
import Derived.Test.YtnafjfdalapegaaGreatQBImplIsTaught
import Derived.Test.YtnafjfdalapegaaGreatQBImplMakeQuestionF11
import Derived.Test.YtnafjfdalapegaaGreatQBLawsMarkIntSS
import Derived.Test.YtnafjfdalapegaaGreatQBLawsSzIntS
import Derived.Test.YtnafjfdalapegaaGreatQBSlicesGrowInt
import Derived.Test.YtnafjfdalapegaaGreatQBSlicesIndexInt
import Derived.Test.YtnafjfdalapegaaGreatQBSpecExTaught
import Derived.Test.YtnafjfdalapegaaGreatQBSpecLeAre
import Derived.Test.YtnafjfdalapegaaGreatQBounds
import Derived.Test.YtnafjfdalapegaaGreatQImplAllOfInt
import Derived.Test.YtnafjfdalapegaaGreatQImplAllWithin
import Derived.Test.YtnafjfdalapegaaGreatQImplAreWords
import Derived.Test.YtnafjfdalapegaaGreatQImplIsTaught1
import Derived.Test.YtnafjfdalapegaaGreatQImplMakeQuestion
import Derived.Test.YtnafjfdalapegaaGreatQLawsFnExactMakeQuestion
import Derived.Test.YtnafjfdalapegaaGreatQSlicesContainsFuncImplWord
import Derived.Test.YtnafjfdalapegaaGreatQSpecExMake
import Derived.Test.YtnafjfdalapegaaGreatQ0
import Derived.Test.YtnafjfdalapegaaGreatWWords
import Derived.Lib.SlicesCompact
import Derived.Lib.Bytealg
import Derived.Test.YtnafjfdalapegaaGreatGIdx
set_option linter.unusedVariables false
set_option linter.unusedSimpArgs false
namespace Go.Proofs.YtnafjfdalapegaaGreat.Pure
open Go.RowKit Go.Proofs.YtnafjfdalapegaaGreat.Q Go.Proofs.YtnafjfdalapegaaGreatW.PrintLast Go.Proofs.YtnafjfdalapegaaGreatW.PrintWords
theorem Ev.succ {α : Type} {g : Nat → Option α} {r : α} (h : Ev (fun k => g (k + 1)) r) : Ev g r := Ev.step (fun _ => rfl) h
theorem Ev.k {α : Type} {g : Nat → Option α} {o : Option α} {r : α} (hg : ∀ k, g k = o) (h : o = some r) : Ev g r := ⟨0, fun k _ => (hg k).trans h⟩
theorem Ev.eq {α : Type} {g : Nat → Option α} {r r' : α} (h : Ev g r) (e : r = r') : Ev g r' := e ▸ h
/-- From round i up to round n. -/
theorem Ev.upto {β : Type} {L : Nat → Nat → Option β} {r : β} {n : Nat} (hend : Ev (fun k => L k n) r)
  (hstep : ∀ j, j < n → Ev (fun k => L k (j + 1)) r → Ev (fun k => L k j) r) : ∀ i, i ≤ n → Ev (fun k => L k i) r := by
 intro i hi
 obtain ⟨d, hd⟩ : ∃ d, n = i + d := ⟨n - i, by omega⟩
 induction d generalizing i with
 | zero => simp at hd; subst hd; exact hend
 | succ d ih => exact hstep i (by omega) (ih (i + 1) (by omega) (by omega))
/-- A loop that ends early where P fails. -/
theorem Ev.all {β : Type} {L : Nat → Nat → Option β} {P : Nat → Bool} {n : Nat} {a b : β} (hend : Ev (fun k => L k n) a)
  (hyes : ∀ j r, j < n → P j = true → Ev (fun k => L k (j + 1)) r → Ev (fun k => L k j) r) (hno : ∀ j, j < n → P j = false → Ev (fun k => L k j) b) :
  ∀ i, i ≤ n → Ev (fun k => L k i) (if (List.range' i (n - i)).all P then a else b) := by
 intro i hi
 obtain ⟨d, hd⟩ : ∃ d, n = i + d := ⟨n - i, by omega⟩
 induction d generalizing i with
 | zero => simp at hd; subst hd; simpa using hend
 | succ d ih =>
  have h1 : n - i = (n - (i + 1)) + 1 := by omega
  rw [h1, List.range'_succ]
  simp only [List.all_cons]
  rcases Bool.eq_false_or_eq_true (P i) with hP | hP
  ·simp only [hP, Bool.true_and]
   exact hyes i _ (by omega) hP (ih (i + 1) (by omega) (by omega))
  ·simpa [hP] using hno i (by omega) hP
theorem Ev.all0 {β : Type} {L : Nat → Nat → Option β} {P : Nat → Bool} {n : Nat} {a b : β} (hend : Ev (fun k => L k n) a)
  (hyes : ∀ j r, j < n → P j = true → Ev (fun k => L k (j + 1)) r → Ev (fun k => L k j) r) (hno : ∀ j, j < n → P j = false → Ev (fun k => L k j) b) :
  Ev (fun k => L k 0) (if (List.range n).all P then a else b) := by
 have := Ev.all hend hyes hno 0 (Nat.zero_le _)
 rwa [Nat.sub_zero, ← List.range_eq_range'] at this

theorem wrap_id {x : Int} (h0 : -9223372036854775808 ≤ x) (h1 : x ≤ 9223372036854775807) : wrap64 x = x := by
 unfold wrap64
 omega
theorem wrap_succ {n : Nat} (h : n < 4611686018427387904) : wrap64 ((n : Int) + 1) = ((n + 1 : Nat) : Int) := by
 rw [wrap_id (by omega) (by omega)]
 omega
theorem wrap_pred {n : Nat} (h0 : 0 < n) (h : n < 4611686018427387904) : wrap64 ((n : Int) - 1) = ((n - 1 : Nat) : Int) := by
 rw [wrap_id (by omega) (by omega)]
 omega
theorem nat_nonneg (n : Nat) : (0 ≤ (n : Int)) = True := eq_true (Int.natCast_nonneg n)
/-- A copy, element by element, into a row that was made. -/
theorem Ev.copy {α β : Type} (f : α → β) (l : List α) (za : α) (zb : β) (L : Nat → List β → Int → Option (List β))
  (hstep : ∀ (j : Nat) (s r : List β), j < l.length → s.length = l.length → Ev (fun k => L k (s.set j (f (l.getD j za))) ((j + 1 : Nat) : Int)) r → Ev (fun k => L k s (j : Int)) r)
  (hend : ∀ s : List β, s.length = l.length → Ev (fun k => L k s (l.length : Int)) s) : Ev (fun k => L k (List.replicate l.length zb) 0) (l.map f) := by
 have key := Ev.upto (L := fun k j => L k ((l.map f).take j ++ List.replicate (l.length - j) zb) (j : Int)) (r := l.map f) (n := l.length)
  (by
   have h := hend ((l.map f).take l.length ++ List.replicate (l.length - l.length) zb) (by simp)
   refine Ev.eq h ?_
   rw [Nat.sub_self, List.replicate_zero, List.append_nil, List.take_of_length_le (by simp)])
  (by
   intro j hj h
   have hlen : ((l.map f).take j ++ List.replicate (l.length - j) zb).length = l.length := by simp; omega
   refine hstep j _ _ hj hlen ?_
   have e : ((l.map f).take j ++ List.replicate (l.length - j) zb).set j (f (l.getD j za)) = (l.map f).take (j + 1) ++ List.replicate (l.length - (j + 1)) zb := by
    have e1 : l.length - j = (l.length - (j + 1)) + 1 := by omega
    rw [e1, List.replicate_succ, List.set_append_right _ _ (by simp; omega)]
    have e2 : j - ((l.map f).take j).length = 0 := by simp; omega
    rw [e2, List.set_cons_zero, List.take_succ_eq_append_getElem (by simpa using hj)]
    simp [List.getD_eq_getElem?_getD, List.getElem?_eq_getElem hj]
   rw [e]
   exact h)
  0 (Nat.zero_le _)
 simpa using key
/-- The marks of a row: m a x is x marked from a on, c x how many marks that takes. -/
def markAll {β : Type} (m : Int → β → β) (c : β → Nat) : Int → List β → List β
 | _, [] => []
 | a, x :: r => m a x :: markAll m c (a + c x) r
def markEnd {β : Type} (c : β → Nat) : Int → List β → Int
 | a, [] => a
 | a, x :: r => markEnd c (a + c x) r
theorem markEnd_ge {β : Type} (c : β → Nat) : ∀ (l : List β) (a : Int), a ≤ markEnd c a l
 | [], a => Int.le_refl _
 | x :: r, a => by have := markEnd_ge c r (a + c x); simp only [markEnd]; omega
theorem Ev.mark {β : Type} (m : Int → β → β) (c : β → Nat) (z : β) (B : Int) (N : Nat) (L : Nat → List β → Int → Int → Option (Int × List β))
  (hstep : ∀ (s : List β) (j : Nat) (a : Int) (r : Int × List β), j < N → s.length = N → 0 ≤ a → a + c (s.getD j z) ≤ B → Ev (fun k => L k (s.set j (m a (s.getD j z))) (a + c (s.getD j z)) ((j + 1 : Nat) : Int)) r → Ev (fun k => L k s a (j : Int)) r)
  (hend : ∀ (s : List β) (a : Int), s.length = N → Ev (fun k => L k s a (N : Int)) (a, s)) :
  ∀ (l : List β) (a : Int), l.length = N → 0 ≤ a → markEnd c a l ≤ B → Ev (fun k => L k l a 0) (markEnd c a l, markAll m c a l) := by
 have key : ∀ (l d : List β) (a : Int), d.length + l.length = N → 0 ≤ a → markEnd c a l ≤ B → Ev (fun k => L k (d ++ l) a (d.length : Int)) (markEnd c a l, d ++ markAll m c a l) := by
  intro l
  induction l with
  | nil =>
   intro d a hN _ _
   simp only [List.append_nil, markEnd, markAll]
   rw [List.length_nil, Nat.add_zero] at hN
   rw [hN]
   exact hend d a hN
  | cons x r ih =>
   intro d a hN h0 h1
   rw [List.length_cons] at hN
   have hx : (d ++ x :: r).getD d.length z = x := by simp [List.getD_eq_getElem?_getD]
   have hB := markEnd_ge c r (a + c x)
   simp only [markEnd] at h1
   refine hstep _ _ _ _ (by omega) (by simp; omega) h0 (by rw [hx]; omega) ?_
   rw [hx]
   have e : (d ++ x :: r).set d.length (m a x) = (d ++ [m a x]) ++ r := by
    rw [List.set_append_right _ _ (Nat.le_refl _), Nat.sub_self, List.set_cons_zero, List.append_assoc]
    rfl
   have h2 := ih (d ++ [m a x]) (a + c x) (by simp; omega) (by omega) h1
   rw [e]
   simpa [markAll, markEnd] using h2
 intro l a hN h0 h1
 simpa using key l [] a (by simpa using hN) h0 h1
def inB (a b c : Int) : Bool := decide (b ≤ a ∧ a ≤ c)
theorem l1In_eq (a b c : Int) : spec_l1In.f a b c = some (inB a b c) := by
 unfold spec_l1In.f inB
 split <;> simp <;> omega
theorem within_eq (a b c : Int) : impl_within.f a b c = some (inB a b c) := by
 unfold impl_within.f inB
 split <;> simp <;> omega
theorem rdJ (l : List Int) (j : Nat) : rd l (j : Int) = l.getD j 0 := by simp [rd]
/-- The first place of x among d elements from j on, or -1. -/
def idxD (l : List Int) (x : Int) : Nat → Nat → Int
 | 0, _ => -1
 | d + 1, j => if l.getD j 0 = x then (j : Int) else idxD l x d (j + 1)
theorem idxD_nonneg (l : List Int) (x : Int) : ∀ d j, (0 ≤ idxD l x d j) ↔ ∃ i, j ≤ i ∧ i < j + d ∧ l.getD i 0 = x := by
 intro d
 induction d with
 | zero => intro j; simp only [idxD]; constructor <;> intro h <;> omega
 | succ d ih =>
  intro j
  rw [idxD]
  by_cases h : l.getD j 0 = x
  ·rw [if_pos h]
   exact ⟨fun _ => ⟨j, by omega, by omega, h⟩, fun _ => by omega⟩
  ·rw [if_neg h, ih]
   constructor
   ·rintro ⟨i, h1, h2, h3⟩
    exact ⟨i, by omega, by omega, h3⟩
   ·rintro ⟨i, h1, h2, h3⟩
    have : i ≠ j := fun e => h (e ▸ h3)
    exact ⟨i, by omega, by omega, h3⟩
theorem getD_mem_iff (l : List Int) (x : Int) : (∃ i, 0 ≤ i ∧ i < 0 + l.length ∧ l.getD i 0 = x) ↔ x ∈ l := by
 rw [List.mem_iff_getElem]
 constructor
 ·rintro ⟨i, _, h2, h3⟩
  refine ⟨i, by omega, ?_⟩
  rw [← h3, List.getD_eq_getElem?_getD, List.getElem?_eq_getElem (by omega)]
  rfl
 ·rintro ⟨i, h2, h3⟩
  refine ⟨i, by omega, by omega, ?_⟩
  rw [List.getD_eq_getElem?_getD, List.getElem?_eq_getElem h2]
  exact h3
theorem idxD_mem (l : List Int) (x : Int) : decide (idxD l x l.length 0 ≥ 0) = decide (x ∈ l) := by
 rw [decide_eq_decide]
 exact (idxD_nonneg l x l.length 0).trans (getD_mem_iff l x)
theorem index_l0 (l : List Int) (x : Int) (hl : l.length < 4611686018427387904) : ∀ d j, j + d = l.length → Ev (fun k => slices_Index_int.l0 k l x (l.length : Int) (j : Int)) (idxD l x d j) := by
 intro d
 induction d with
 | zero =>
  intro j hj
  refine Ev.succ ?_
  have h1 : ((j : Int) < (l.length : Int)) = False := eq_false (by omega)
  simp only [slices_Index_int.l0, h1, if_false, idxD]
  exact Ev.now _
 | succ d ih =>
  intro j hj
  refine Ev.succ ?_
  have h1 : ((j : Int) < (l.length : Int)) = True := eq_true (by omega)
  simp only [slices_Index_int.l0, h1, if_true, nat_nonneg, rdJ, wrap_succ (show j < 4611686018427387904 by omega), idxD]
  by_cases h : l.getD j 0 = x
  ·simp only [eq_true h, eq_true h.symm, if_true]
   exact Ev.now _
  ·simp only [eq_false h, eq_false (fun e : x = l.getD j 0 => h e.symm), if_false]
   exact ih (j + 1) (by omega)
theorem index_ev (l : List Int) (x : Int) (hl : l.length < 4611686018427387904) : Ev (fun k => slices_Index_int.f k l x) (idxD l x l.length 0) := by
 unfold slices_Index_int.f
 exact index_l0 l x hl l.length 0 (by omega)
theorem contains_ev (l : List Int) (x : Int) (hl : l.length < 4611686018427387904) : Ev (fun k => slices_Contains_int.f k l x) (decide (x ∈ l)) := by
 unfold slices_Contains_int.f
 refine Ev.bind (index_ev l x hl) ?_
 rw [idxD_mem]
 exact Ev.now _
theorem l1Has_l0 (l : List Int) (x : Int) (hl : l.length < 4611686018427387904) : ∀ d j, j + d = l.length → Ev (fun k => spec_l1Has.l0 k x l (l.length : Int) (j : Int)) (decide (idxD l x d j ≥ 0)) := by
 intro d
 induction d with
 | zero =>
  intro j hj
  refine Ev.succ ?_
  have h1 : ((j : Int) < (l.length : Int)) = False := eq_false (by omega)
  simp only [spec_l1Has.l0, h1, if_false, idxD]
  exact Ev.now _
 | succ d ih =>
  intro j hj
  refine Ev.succ ?_
  have h1 : ((j : Int) < (l.length : Int)) = True := eq_true (by omega)
  simp only [spec_l1Has.l0, h1, if_true, nat_nonneg, rdJ, wrap_succ (show j < 4611686018427387904 by omega), idxD]
  by_cases h : l.getD j 0 = x
  ·simp only [eq_true h, if_true]
   refine Ev.eq (Ev.now _) ?_
   simp
  ·simp only [eq_false h, if_false]
   exact ih (j + 1) (by omega)
theorem l1Has_ev (l : List Int) (x : Int) (hl : l.length < 4611686018427387904) : Ev (fun k => spec_l1Has.f k l x) (decide (x ∈ l)) := by
 unfold spec_l1Has.f
 rw [← idxD_mem]
 exact l1Has_l0 l x hl l.length 0 (by omega)
theorem pairs_lt (zs : List Int) (h : ∀ j, 0 < j → (hj : j < zs.length) → zs[j - 1]'(by omega) < zs[j]) : ∀ (d i : Nat) (hi : i + d + 1 < zs.length), zs[i]'(by omega) < zs[i + d + 1] := by
 intro d
 induction d with
 | zero => intro i hi; exact h (i + 1) (by omega) hi
 | succ d ih =>
  intro i hi
  have h1 := ih i (by omega)
  have h2 := h (i + d + 1 + 1) (by omega) hi
  have h3 : zs[i + d + 1 + 1 - 1]'(by omega) = zs[i + d + 1]'(by omega) := by congr 1
  have h4 : zs[i + (d + 1) + 1] = zs[i + d + 1 + 1] := by congr 1
  omega
theorem compact_len_iff (zs : List Int) (hs : zs.Pairwise (· ≤ ·)) : (Lib.compact zs).length = zs.length ↔ zs.Nodup := by
 have e : (Lib.compact zs).length = ((List.range zs.length).filter (Lib.keeps zs.toArray)).length := by simp [Lib.compact, Lib.compactUpTo]
 rw [e]
 have e2 : ((List.range zs.length).filter (Lib.keeps zs.toArray)).length = zs.length ↔ ∀ j, j < zs.length → Lib.keeps zs.toArray j = true := by
  constructor
  ·intro h j hj
   have h' : ((List.range zs.length).filter (Lib.keeps zs.toArray)).length = (List.range zs.length).length := by rw [h, List.length_range]
   exact List.length_filter_eq_length_iff.1 h' j (List.mem_range.2 hj)
  ·intro h
   have := List.length_filter_eq_length_iff.2 (fun j hj => h j (List.mem_range.1 hj))
   rw [this, List.length_range]
 rw [e2]
 have hle := List.pairwise_iff_getElem.1 hs
 constructor
 ·intro h
  have hlt : ∀ j, 0 < j → (hj : j < zs.length) → zs[j - 1]'(by omega) < zs[j] := by
   intro j h0 hj
   have h1 := hle (j - 1) j (by omega) hj (by omega)
   have h2 := h j hj
   have h3 : zs[j - 1]'(by omega) ≠ zs[j] := by
    intro e3
    have := Lib.keeps_neg (d := zs.toArray) h0 (by simp [getElem!_pos, show j < zs.length by omega, show j - 1 < zs.length by omega, e3])
    rw [this] at h2
    cases h2
   omega
  rw [List.Nodup, List.pairwise_iff_getElem]
  intro i j hi hj hij
  have := pairs_lt zs hlt (j - i - 1) i (by omega)
  have e4 : zs[i + (j - i - 1) + 1]'(by omega) = zs[j] := by congr 1; omega
  omega
 ·intro h j hj
  rw [List.Nodup, List.pairwise_iff_getElem] at h
  by_cases h0 : j = 0
  ·subst h0; exact Lib.keeps_lt_one _ 0 (by omega)
  ·refine Lib.keeps_pos ?_
   have := h (j - 1) j (by omega) hj (by omega)
   simp [getElem!_pos, show j < zs.length by omega, show j - 1 < zs.length by omega]
   exact fun e => this e.symm
theorem distinct_len (l : List Int) (hl : l.length < 17592186044416) : ∃ r, impl_distinct_int.f l = some r ∧ (r.length = l.length ↔ l.Nodup) := by
 unfold impl_distinct_int.f slices_Clone_int.f
 simp only [Option.bind_some, List.length_nil, Nat.zero_add, List.nil_append, eq_true hl, if_true]
 refine ⟨_, rfl, ?_⟩
 have hp : (impl_distinct_int.sorted l).Perm l := List.mergeSort_perm _ _
 have hs : (impl_distinct_int.sorted l).Pairwise (· ≤ ·) := by
  have := List.pairwise_mergeSort (le := fun x y : Int => decide (x ≤ y)) (by intro a b c; simp; omega) (by intro a b; simp; omega) l
  exact this.imp (fun h => of_decide_eq_true h)
 rw [← hp.length_eq, compact_len_iff _ hs]
 exact hp.nodup_iff
def capAt (s : ByteArray) (j : Nat) : Bool := decide (65 ≤ bt s j ∧ bt s j ≤ 90)
def glossB (s : ByteArray) : Bool := inB s.size 1 8 && (List.range s.size).all (capAt s)
def caps : ByteArray := ⟨#[65, 66, 67, 68, 69, 70, 71, 72, 73, 74, 75, 76, 77, 78, 79, 80, 81, 82, 83, 84, 85, 86, 87, 88, 89, 90]⟩
theorem caps_all : ((List.range 256).all fun n => decide (Lib.indexByte caps.data.toList n.toUInt8 < 0) == !(decide (65 ≤ n ∧ n ≤ 90))) = true := by decide +kernel
theorem caps_index (b : Int) (h0 : 0 ≤ b) (h1 : b ≤ 255) : (Lib.indexByte caps.data.toList b.toNat.toUInt8 < 0) ↔ ¬ (65 ≤ b ∧ b ≤ 90) := by
 have h := List.all_eq_true.1 caps_all b.toNat (List.mem_range.2 (by omega))
 simp only [beq_iff_eq] at h
 by_cases hc : 65 ≤ b ∧ b ≤ 90
 ·have h2 : decide (65 ≤ b.toNat ∧ b.toNat ≤ 90) = true := decide_eq_true (by omega)
  rw [h2] at h
  exact ⟨fun h3 => absurd h3 (of_decide_eq_false h), fun h3 => absurd hc h3⟩
 ·have h2 : decide (65 ≤ b.toNat ∧ b.toNat ≤ 90) = false := decide_eq_false (by omega)
  rw [h2] at h
  exact ⟨fun _ => hc, fun _ => of_decide_eq_true h⟩
theorem hasOnly_ev (s : ByteArray) (hs : s.size < 4611686018427387904) : Ev (fun k => impl_hasOnly.f k s caps) ((List.range s.size).all (capAt s)) := by
 unfold impl_hasOnly.f
 refine Ev.eq (Ev.all0 (L := fun k j => impl_hasOnly.l0 k s caps (s.size : Int) (j : Int)) (P := capAt s) (n := s.size) (a := true) (b := false) ?_ ?_ ?_) (by split <;> simp_all)
 ·refine Ev.succ ?_
  simp only [impl_hasOnly.l0, Int.lt_irrefl, if_false]
  exact Ev.now _
 ·intro j r hj hP h
  refine Ev.succ ?_
  have h1 : ((j : Int) < (s.size : Int)) = True := eq_true (by omega)
  have hb := bt_range s (j : Int)
  have h2 : (Lib.indexByte caps.data.toList (bt s (j : Int)).toNat.toUInt8 < 0) = False := eq_false (fun hc => (caps_index _ hb.1 hb.2).1 hc (of_decide_eq_true hP))
  simp only [impl_hasOnly.l0, strings_IndexByte.f, Option.bind_some, h1, if_true, nat_nonneg, h2, if_false, wrap_succ (show j < 4611686018427387904 by omega)]
  exact h
 ·intro j hj hP
  refine Ev.succ ?_
  have h1 : ((j : Int) < (s.size : Int)) = True := eq_true (by omega)
  have hb := bt_range s (j : Int)
  have h2 : (Lib.indexByte caps.data.toList (bt s (j : Int)).toNat.toUInt8 < 0) = True := eq_true ((caps_index _ hb.1 hb.2).2 (of_decide_eq_false hP))
  simp only [impl_hasOnly.l0, strings_IndexByte.f, Option.bind_some, h1, if_true, nat_nonneg, h2]
  exact Ev.now _
theorem isGloss_ev (s : ByteArray) (hs : s.size < 4611686018427387904) : Ev (fun k => impl_IsGloss.f k s) (glossB s) := by
 unfold impl_IsGloss.f impl_isWordOf.f glossB
 refine Ev.bind (a := inB s.size 1 8 && (List.range s.size).all (capAt s)) ?_ (Ev.now _)
 simp only [within_eq, Option.bind_some]
 rcases Bool.eq_false_or_eq_true (inB s.size 1 8) with h | h
 ·simp only [h, if_true, Bool.true_and]
  exact Ev.bind (hasOnly_ev s hs) (Ev.now _)
 ·simp only [h]
  exact Ev.now _
theorem enGloss_ev (s : ByteArray) (hs : s.size < 4611686018427387904) : Ev (fun k => spec_enGloss.f k s) (glossB s) := by
 unfold spec_enGloss.f
 refine Ev.eq (Ev.all0 (L := fun k j => spec_enGloss.l0 k s (j : Int)) (P := capAt s) (n := s.size) (a := inB s.size 1 8) (b := false) ?_ ?_ ?_) (by unfold glossB; split <;> simp_all)
 ·refine Ev.succ ?_
  simp only [spec_enGloss.l0, Int.lt_irrefl, if_false, l1In_eq, Option.bind_some]
  exact Ev.now _
 ·intro j r hj hP h
  refine Ev.succ ?_
  have h1 : ((j : Int) < (s.size : Int)) = True := eq_true (by omega)
  have hP' := of_decide_eq_true hP
  simp only [spec_enGloss.l0, h1, if_true, nat_nonneg, show (bt s (j : Int) < 65) = False from eq_false (by omega), show (bt s (j : Int) > 90) = False from eq_false (by omega), if_false, wrap_succ (show j < 4611686018427387904 by omega)]
  exact h
 ·intro j hj hP
  refine Ev.succ ?_
  have h1 : ((j : Int) < (s.size : Int)) = True := eq_true (by omega)
  have hP' := of_decide_eq_false hP
  simp only [spec_enGloss.l0, h1, if_true, nat_nonneg]
  by_cases h2 : bt s (j : Int) < 65
  ·simp only [eq_true h2, if_true]
   exact Ev.now _
  ·simp only [eq_false h2, if_false, show (bt s (j : Int) > 90) = True from eq_true (by omega), if_true]
   exact Ev.now _
theorem rdI (l : List Int) (j : Nat) : rd l (j : Int) = l.getD j 0 := by simp [rd]
theorem eqIntS_ev (l : List Int) (hl : l.length < 4611686018427387904) : Ev (fun k => laws_eqIntS.f k l l) true := by
 unfold laws_eqIntS.f
 simp only [if_true]
 exact Ev.upto (L := fun k j => laws_eqIntS.l0 k l l (j : Int)) (r := true) (n := l.length)
  (by
   refine Ev.succ ?_
   simp only [laws_eqIntS.l0, Int.lt_irrefl, if_false]
   exact Ev.now _)
  (by
   intro j hj h
   refine Ev.succ ?_
   have h1 : ((j : Int) < (l.length : Int)) = True := eq_true (by omega)
   simp only [laws_eqIntS.l0, h1, if_true, nat_nonneg, wrap_succ (show j < 4611686018427387904 by omega)]
   exact h)
  0 (Nat.zero_le _)
theorem toIntS_ev (l : List Int) (hl : l.length * 8 ≤ 140737488351232) : Ev (fun k => laws_toIntS.f k l) l := by
 unfold laws_toIntS.f
 simp only [nat_nonneg, if_true, Int.toNat_natCast, show (l.length ≤ 35184372088832) = True from eq_true (by omega)]
 have key := Ev.copy (fun x : Int => x) l 0 0 (fun k s j => laws_toIntS.l0 k l s j)
  (by
   intro j s r hj hs h
   refine Ev.succ ?_
   have h1 : ((j : Int) < (l.length : Int)) = True := eq_true (by omega)
   simp only [laws_toIntS.l0, h1, if_true, nat_nonneg, hs, Int.toNat_natCast, wrap_succ (show j < 4611686018427387904 by omega), rdJ]
   exact h)
  (by
   intro s hs
   refine Ev.succ ?_
   simp only [laws_toIntS.l0, Int.lt_irrefl, if_false]
   exact Ev.now _)
 simpa using key

def wat (l : List S62) (j : Nat) : S62 := l.getD j z62
theorem rdw (l : List S62) (j : Nat) : rd_T62 l (j : Int) = wat l j := by simp [rd_T62, wat]
theorem rdwL (l : List S56) (j : Nat) : rd_T56 l (j : Int) = l.getD j z56 := by simp [rd_T56]
theorem wat_get (l : List S62) (j : Nat) (h : j < l.length) : wat l j = l[j] := by unfold wat; rw [List.getD_eq_getElem?_getD, List.getElem?_eq_getElem h]; rfl
/-- All needs and glosses are few and short enough. -/
def WSz (l : List S62) : Prop := ∀ q, q ∈ l → q.f1.length ≤ 1048576 ∧ q.f0.size ≤ 1048576
theorem wsz_at {l : List S62} (hz : WSz l) {j : Nat} (hj : j < l.length) : (wat l j).f1.length ≤ 1048576 ∧ (wat l j).f0.size ≤ 1048576 := by rw [wat_get l j hj]; exact hz _ (List.getElem_mem hj)
/-! strictly rising numbers within bounds -/
def riseAt (l : List Int) (a b : Int) (j : Nat) : Bool := inB (l.getD j 0) a b && (decide (j = 0) || decide (l.getD (j - 1) 0 < l.getD j 0))
def riseB (l : List Int) (a b : Int) : Bool := (List.range l.length).all (riseAt l a b)
theorem l1Rising_ev (l : List Int) (a b : Int) (hl : l.length < 4611686018427387904) : Ev (fun k => spec_l1Rising.f k l a b) (riseB l a b) := by
 unfold spec_l1Rising.f riseB
 refine Ev.eq (Ev.all0 (L := fun k j => spec_l1Rising.l0 k l a b l (l.length : Int) (j : Int)) (P := riseAt l a b) (n := l.length) (a := true) (b := false) ?_ ?_ ?_) (by split <;> simp_all)
 ·refine Ev.succ ?_
  simp only [spec_l1Rising.l0, Int.lt_irrefl, if_false]
  exact Ev.now _
 ·intro j r hj hP h
  refine Ev.succ ?_
  have h1 : ((j : Int) < (l.length : Int)) = True := eq_true (by omega)
  unfold riseAt at hP
  rw [Bool.and_eq_true] at hP
  simp only [spec_l1Rising.l0, h1, if_true, nat_nonneg, rdJ, l1In_eq, Option.bind_some, hP.1, wrap_succ (show j < 4611686018427387904 by omega)]
  by_cases h0 : j = 0
  ·subst h0
   simp only [Int.natCast_zero, gt_iff_lt, Int.lt_irrefl, if_false]
   exact h
  ·have h2 : ((j : Int) > 0) = True := eq_true (by omega)
   have h3 : (((j - 1 : Nat) : Int) < (l.length : Int)) = True := eq_true (by omega)
   have h4 := hP.2
   simp only [h0, decide_false, Bool.false_or, decide_eq_true_eq] at h4
   have h5 : (l.getD (j - 1) 0 ≥ l.getD j 0) = False := eq_false (by omega)
   simp only [h2, if_true, wrap_pred (show 0 < j by omega) (show j < 4611686018427387904 by omega), nat_nonneg, h3, rdJ, h5, if_false]
   exact h
 ·intro j hj hP
  refine Ev.succ ?_
  have h1 : ((j : Int) < (l.length : Int)) = True := eq_true (by omega)
  unfold riseAt at hP
  simp only [spec_l1Rising.l0, h1, if_true, nat_nonneg, rdJ, l1In_eq, Option.bind_some]
  rcases Bool.eq_false_or_eq_true (inB (l.getD j 0) a b) with hb | hb
  ·rw [hb, Bool.true_and, Bool.or_eq_false_iff, decide_eq_false_iff_not, decide_eq_false_iff_not] at hP
   have h2 : ((j : Int) > 0) = True := eq_true (by have := hP.1; omega)
   have h3 : (((j - 1 : Nat) : Int) < (l.length : Int)) = True := eq_true (by omega)
   have h5 : (l.getD (j - 1) 0 ≥ l.getD j 0) = True := eq_true (by have := hP.2; omega)
   simp only [hb, if_true, h2, wrap_pred (show 0 < j by have := hP.1; omega) (show j < 4611686018427387904 by omega), nat_nonneg, h3, rdJ, h5]
   exact Ev.now _
  ·simp only [hb, Bool.false_eq_true, if_false]
   exact Ev.now _
/-! the program's test of an order -/
def sortAt (l : List Int) (j : Nat) : Bool := decide (j = 0) || decide (l.getD (j - 1) 0 ≤ l.getD j 0)
def sortB (l : List Int) : Bool := (List.range l.length).all (sortAt l)
theorem less_eq (a b : Int) : cmp_Less_int.f a b = some (decide (a < b)) := by
 unfold cmp_Less_int.f cmp_isNaN_int.f
 simp
theorem isSorted_l0 (l : List Int) (hl : l.length < 4611686018427387904) : ∀ j, j < l.length → Ev (fun k => slices_IsSorted_int.l0 k l (j : Int)) ((List.range (j + 1)).all (sortAt l)) := by
 intro j
 induction j with
 | zero =>
  intro _
  refine Ev.succ ?_
  simp only [slices_IsSorted_int.l0, Int.natCast_zero, gt_iff_lt, Int.lt_irrefl, if_false]
  refine Ev.eq (Ev.now _) ?_
  simp [sortAt]
 | succ j ih =>
  intro hj
  refine Ev.succ ?_
  have h1 : (((j + 1 : Nat) : Int) > 0) = True := eq_true (by omega)
  have h2 : (((j + 1 : Nat) : Int) < (l.length : Int)) = True := eq_true (by omega)
  have h3 : ((j : Int) < (l.length : Int)) = True := eq_true (by omega)
  have h4 : wrap64 (((j + 1 : Nat) : Int) - 1) = (j : Int) := by rw [wrap_id (by omega) (by omega)]; omega
  simp only [slices_IsSorted_int.l0, h1, h2, if_true, nat_nonneg, h4, h3, rdJ, less_eq, Option.bind_some]
  rw [List.range_succ, List.all_append]
  by_cases h5 : l.getD (j + 1) 0 < l.getD j 0
  ·simp only [h5, decide_true, if_true]
   refine Ev.eq (Ev.now _) ?_
   have : sortAt l (j + 1) = false := by
    unfold sortAt
    simp only [Nat.add_sub_cancel, Bool.or_eq_false_iff, decide_eq_false_iff_not]
    exact ⟨by omega, by omega⟩
   simp [this]
  ·simp only [h5, decide_false, Bool.false_eq_true, if_false]
   refine Ev.eq (ih (by omega)) ?_
   have : sortAt l (j + 1) = true := by
    unfold sortAt
    simp only [Nat.add_sub_cancel, Bool.or_eq_true, decide_eq_true_eq]
    exact Or.inr (by omega)
   simp [this]
theorem isSorted_ev (l : List Int) (hl : l.length < 4611686018427387904) : Ev (fun k => slices_IsSorted_int.f k l) (sortB l) := by
 unfold slices_IsSorted_int.f sortB
 by_cases h0 : l.length = 0
 ·rw [h0]
  refine Ev.succ ?_
  simp only [slices_IsSorted_int.l0, show (wrap64 (((0 : Nat) : Int) - 1) > 0) = False from eq_false (by unfold wrap64; omega), if_false]
  exact Ev.now _
 ·rw [wrap_pred (by omega) (by omega)]
  refine Ev.eq (isSorted_l0 l hl (l.length - 1) (by omega)) ?_
  rw [show l.length - 1 + 1 = l.length by omega]
theorem rise_eq (l : List Int) (a b : Int) : riseB l a b = (l.all (fun x => decide (a ≤ x ∧ x ≤ b)) && (decide l.Nodup && sortB l)) := by
 have hg : ∀ i (hi : i < l.length), l.getD i 0 = l[i] := fun i hi => by rw [List.getD_eq_getElem?_getD, List.getElem?_eq_getElem hi]; rfl
 rw [Bool.eq_iff_iff, Bool.and_eq_true, Bool.and_eq_true, riseB, sortB, List.all_eq_true, List.all_eq_true, List.all_eq_true, decide_eq_true_eq]
 constructor
 ·intro h
  have hlt : ∀ j, 0 < j → (hj : j < l.length) → l[j - 1]'(by omega) < l[j] := by
   intro j h0 hj
   have h2 := h j (List.mem_range.2 hj)
   rw [riseAt, Bool.and_eq_true, Bool.or_eq_true, decide_eq_true_eq, decide_eq_true_eq, hg j hj, hg (j - 1) (by omega)] at h2
   rcases h2.2 with h3 | h3
   ·omega
   ·exact h3
  refine ⟨fun x hx => ?_, ?_, fun j hj => ?_⟩
  ·obtain ⟨i, hi, rfl⟩ := List.getElem_of_mem hx
   have := h i (List.mem_range.2 hi)
   rw [riseAt, hg i hi, Bool.and_eq_true] at this
   exact this.1
  ·rw [List.Nodup, List.pairwise_iff_getElem]
   intro i j hi hj hij
   have := pairs_lt l hlt (j - i - 1) i (by omega)
   have e4 : l[i + (j - i - 1) + 1]'(by omega) = l[j] := by congr 1; omega
   omega
  ·have hj' := List.mem_range.1 hj
   rw [sortAt, Bool.or_eq_true, decide_eq_true_eq, decide_eq_true_eq]
   by_cases h0 : j = 0
   ·exact Or.inl h0
   ·refine Or.inr ?_
    rw [hg j hj', hg (j - 1) (by omega)]
    exact Int.le_of_lt (hlt j (by omega) hj')
 ·rintro ⟨h1, h2, h3⟩ j hj
  have hj' := List.mem_range.1 hj
  rw [riseAt, Bool.and_eq_true, hg j hj']
  refine ⟨h1 _ (List.getElem_mem hj'), ?_⟩
  rw [Bool.or_eq_true, decide_eq_true_eq, decide_eq_true_eq]
  by_cases h0 : j = 0
  ·exact Or.inl h0
  ·have h4 := h3 j hj
   rw [sortAt, Bool.or_eq_true, decide_eq_true_eq, decide_eq_true_eq, hg j hj', hg (j - 1) (by omega)] at h4
   rw [List.Nodup, List.pairwise_iff_getElem] at h2
   have h5 := h2 (j - 1) j (by omega) hj' (by omega)
   rw [hg (j - 1) (by omega)]
   rcases h4 with h4 | h4
   ·exact absurd h4 h0
   ·exact Or.inr (by omega)
/-! words -/
def dupW (l : List S62) (s : ByteArray) : Bool := l.any fun x => decide (x.f0.toList = s.toList)
def topW (l : List S62) : Int := wrap64 ((l.length : Int) - 1)
def goodAt (l : List S62) (j : Nat) : Bool := glossB (wat l j).f0 && (riseB (wat l j).f1 0 (topW l) && (!(decide ((j : Int) ∈ (wat l j).f1)) && (inB (wat l j).f2 0 99999 && !(dupW (l.take j) (wat l j).f0))))
def wordsB (l : List S62) : Bool := (List.range l.length).all (goodAt l) && decide (l.length ≤ 16)
theorem leGood_l1 (l y : List S62) (j : Nat) (s : ByteArray) (n : List Int) (u : Int) (r : Bool) (hy : y.length < 4611686018427387904) (hc : dupW y s = false → Ev (fun k => spec_leGood.l0 k l l (l.length : Int) (wrap64 ((j : Int) + 1))) r) : ∀ d i, i + d = y.length → dupW (y.take i) s = false → Ev (fun k => spec_leGood.l1 k l l (l.length : Int) (j : Int) y (y.length : Int) (i : Int) s n u) (if dupW (y.drop i) s then false else r) := by
 intro d
 induction d with
 | zero =>
  intro i hi h0
  refine Ev.succ ?_
  have h1 : ((i : Int) < (y.length : Int)) = False := eq_false (by omega)
  rw [List.take_of_length_le (by omega)] at h0
  simp only [spec_leGood.l1, h1, if_false]
  rw [List.drop_of_length_le (by omega)]
  exact hc h0
 | succ d ih =>
  intro i hi h0
  refine Ev.succ ?_
  have hlt : i < y.length := by omega
  have h1 : ((i : Int) < (y.length : Int)) = True := eq_true (by omega)
  simp only [spec_leGood.l1, h1, if_true, nat_nonneg, rdw, wrap_succ (show i < 4611686018427387904 by omega)]
  have hdup : dupW (y.drop i) s = (decide (y[i].f0.toList = s.toList) || dupW (y.drop (i + 1)) s) := by rw [List.drop_eq_getElem_cons hlt]; unfold dupW; rw [List.any_cons]
  rw [hdup, wat_get y i hlt]
  by_cases h2 : y[i].f0.toList = s.toList
  ·simp only [eq_true h2, if_true, decide_true, Bool.true_or]
   exact Ev.now _
  ·simp only [eq_false h2, if_false, decide_false, Bool.false_or]
   refine ih (i + 1) (by omega) ?_
   rw [List.take_succ_eq_append_getElem hlt]
   unfold dupW at h0 ⊢
   rw [List.any_append, h0]
   simp [h2]
theorem leGood_j1 (l : List S62) (j : Nat) (b : Bool) (r : Bool) (s : ByteArray) (n : List Int) (u : Int) (hl : l.length ≤ 1048576) (hj : j < l.length) (hc : b = false → dupW (l.take j) s = false → Ev (fun k => spec_leGood.l0 k l l (l.length : Int) (wrap64 ((j : Int) + 1))) r) : Ev (fun k => spec_leGood.j1 k l (j : Int) l (l.length : Int) (j : Int) b s n u) (if b || dupW (l.take j) s then false else r) := by
 refine Ev.succ ?_
 cases b with
 | true =>
  simp only [spec_leGood.j1, if_true]
  exact Ev.now _
 | false =>
  have h2 : ((j : Int) ≤ (l.length : Int)) = True := eq_true (by omega)
  simp only [spec_leGood.j1, Bool.false_eq_true, if_false, nat_nonneg, h2, if_true, Option.bind_some, Int.toNat_natCast, Bool.false_or]
  have := leGood_l1 l (l.take j) j s n u r (by rw [List.length_take]; omega) (hc rfl) (l.take j).length 0 (by omega) (by simp [dupW])
  rw [List.drop_zero] at this
  exact this
theorem leGood_step (l : List S62) (j : Nat) (r : Bool) (hl : l.length ≤ 1048576) (hz : WSz l) (hj : j < l.length) (hc : goodAt l j = true → Ev (fun k => spec_leGood.l0 k l l (l.length : Int) ((j + 1 : Nat) : Int)) r) : Ev (fun k => spec_leGood.l0 k l l (l.length : Int) (j : Int)) (if goodAt l j then r else false) := by
 refine Ev.succ ?_
 have h1 : ((j : Int) < (l.length : Int)) = True := eq_true (by omega)
 obtain ⟨z1, z0⟩ := wsz_at hz hj
 rw [← wrap_succ (show j < 4611686018427387904 by omega)] at hc
 simp only [spec_leGood.l0, h1, if_true, nat_nonneg, rdw]
 refine Ev.bind (enGloss_ev _ (by omega)) ?_
 cases hg : glossB (wat l j).f0 with
 | false =>
  have e : goodAt l j = false := by unfold goodAt; rw [hg, Bool.false_and]
  rw [e]
  simp only [Bool.false_eq_true, if_false]
  exact Ev.eq (leGood_j1 l j true r _ _ _ hl hj (fun h => nomatch h)) rfl
 | true =>
  simp only [if_true]
  refine Ev.bind (l1Rising_ev _ _ _ (by omega)) ?_
  change Ev (fun k => if riseB (wat l j).f1 0 (topW l) = true then _ else _) _
  cases hr : riseB (wat l j).f1 0 (topW l) with
  | false =>
   have e : goodAt l j = false := by unfold goodAt; rw [hg, hr, Bool.false_and, Bool.and_false]
   rw [e]
   simp only [Bool.false_eq_true, if_false]
   exact Ev.eq (leGood_j1 l j true r _ _ _ hl hj (fun h => nomatch h)) rfl
  | true =>
   simp only [if_true]
   refine Ev.bind (l1Has_ev _ _ (by omega)) ?_
   cases hh : decide ((j : Int) ∈ (wat l j).f1) with
   | true =>
    have e : goodAt l j = false := by unfold goodAt; rw [hg, hr, hh]; rfl
    rw [e]
    simp only [if_true]
    exact Ev.eq (leGood_j1 l j true r _ _ _ hl hj (fun h => nomatch h)) rfl
   | false =>
    simp only [Bool.false_eq_true, if_false, l1In_eq, Option.bind_some]
    cases hi : inB (wat l j).f2 0 99999 with
    | false =>
     have e : goodAt l j = false := by unfold goodAt; rw [hg, hr, hh, hi]; rfl
     rw [e]
     exact Ev.eq (leGood_j1 l j true r _ _ _ hl hj (fun h => nomatch h)) rfl
    | true =>
     have e : goodAt l j = !(dupW (l.take j) (wat l j).f0) := by unfold goodAt; rw [hg, hr, hh, hi]; rfl
     rw [e] at hc ⊢
     refine Ev.eq (leGood_j1 l j false r _ _ _ hl hj (fun _ h => hc (by rw [h]; rfl))) ?_
     cases dupW (l.take j) (wat l j).f0 <;> rfl
theorem leGood_ev (l : List S62) (hl : l.length ≤ 1048576) (hz : WSz l) : Ev (fun k => spec_leGood.f k l) (wordsB l) := by
 unfold spec_leGood.f wordsB
 refine Ev.eq (Ev.all0 (L := fun k j => spec_leGood.l0 k l l (l.length : Int) (j : Int)) (P := goodAt l) (n := l.length) (a := decide (l.length ≤ 16)) (b := false) ?_ ?_ ?_) (by cases (List.range l.length).all (goodAt l) <;> simp)
 ·refine Ev.succ ?_
  simp only [spec_leGood.l0, Int.lt_irrefl, if_false]
  refine Ev.eq (Ev.now _) ?_
  rw [decide_eq_decide]
  omega
 ·intro j r hj hP h
  have := leGood_step l j r hl hz hj (fun _ => h)
  rw [hP, if_pos rfl] at this
  exact this
 ·intro j hj hP
  have := leGood_step l j false hl hz hj (fun h => by rw [hP] at h; cases h)
  rw [hP] at this
  exact this
theorem areWords_j2 (l : List S62) (j : Nat) (b : Bool) (r : Bool) (s : ByteArray) (n : List Int) (u : Int) (hj : j < l.length) (hc : b = false → dupW (l.take j) s = false → Ev (fun k => impl_AreWords.l0 k l l (l.length : Int) (wrap64 ((j : Int) + 1))) r) : Ev (fun k => impl_AreWords.j2 k l (j : Int) l (l.length : Int) (j : Int) b s n u) (if b || dupW (l.take j) s then false else r) := by
 refine Ev.succ ?_
 cases b with
 | true =>
  simp only [impl_AreWords.j2, if_true]
  exact Ev.now _
 | false =>
  have h2 : ((j : Int) ≤ (l.length : Int)) = True := eq_true (by omega)
  simp only [impl_AreWords.j2, Bool.false_eq_true, if_false, nat_nonneg, h2, if_true, Option.bind_some, Int.toNat_natCast, Bool.false_or, slices_ContainsFunc_impl_Word.f]
  change Ev (fun k => if dupW (l.take j) s = true then _ else _) _
  cases h3 : dupW (l.take j) s with
  | true => simp only [if_true]; exact Ev.now _
  | false => simp only [Bool.false_eq_true, if_false]; exact hc rfl h3
theorem areWords_j1 (l : List S62) (j : Nat) (b : Bool) (r : Bool) (s : ByteArray) (n : List Int) (u : Int) (hn : n.length ≤ 1048576) (hj : j < l.length) (hc : b = false → (decide n.Nodup && sortB n) = true → dupW (l.take j) s = false → Ev (fun k => impl_AreWords.l0 k l l (l.length : Int) (wrap64 ((j : Int) + 1))) r) : Ev (fun k => impl_AreWords.j1 k l (j : Int) l (l.length : Int) (j : Int) b s n u) (if b || (!(decide n.Nodup && sortB n) || dupW (l.take j) s) then false else r) := by
 refine Ev.succ ?_
 cases b with
 | true =>
  simp only [impl_AreWords.j1, if_true]
  exact Ev.now _
 | false =>
  obtain ⟨t, ht, hd⟩ := distinct_len n (by omega)
  simp only [impl_AreWords.j1, Bool.false_eq_true, if_false, ht, Option.bind_some, Bool.false_or]
  by_cases h3 : n.Nodup
  ·have h4 : ((t.length : Int) = (n.length : Int)) = True := eq_true (by have := hd.2 h3; omega)
   simp only [h4, if_true]
   refine Ev.bind (isSorted_ev n (by omega)) ?_
   refine Ev.eq (areWords_j2 l j (!sortB n) r s n u hj (fun h => hc rfl (by simp [h3]; simpa using h))) ?_
   simp [h3]
  ·have h4 : ((t.length : Int) = (n.length : Int)) = False := eq_false (fun e => h3 (hd.1 (by omega)))
   simp only [h4, if_false]
   refine Ev.eq (areWords_j2 l j true r s n u hj (fun h => nomatch h)) ?_
   simp [h3]
theorem areWords_step (l : List S62) (j : Nat) (r : Bool) (hz : WSz l) (hj : j < l.length) (hl : l.length ≤ 1048576) (hc : goodAt l j = true → Ev (fun k => impl_AreWords.l0 k l l (l.length : Int) ((j + 1 : Nat) : Int)) r) : Ev (fun k => impl_AreWords.l0 k l l (l.length : Int) (j : Int)) (if goodAt l j then r else false) := by
 refine Ev.succ ?_
 have h1 : ((j : Int) < (l.length : Int)) = True := eq_true (by omega)
 obtain ⟨z1, z0⟩ := wsz_at hz hj
 rw [← wrap_succ (show j < 4611686018427387904 by omega)] at hc
 simp only [impl_AreWords.l0, h1, if_true, nat_nonneg, rdw, impl_allWithin.f, within_eq, Option.bind_some]
 refine Ev.bind (isGloss_ev _ (by omega)) ?_
 have hE : goodAt l j = (glossB (wat l j).f0 && (((wat l j).f1.all (fun x => decide (0 ≤ x ∧ x ≤ topW l)) && (decide (wat l j).f1.Nodup && sortB (wat l j).f1)) && (!(decide ((j : Int) ∈ (wat l j).f1)) && (inB (wat l j).f2 0 99999 && !(dupW (l.take j) (wat l j).f0))))) := by unfold goodAt; rw [rise_eq]
 change Ev (fun k => if glossB (wat l j).f0 = true then (if inB (wat l j).f2 0 99999 = true then (if ((wat l j).f1.all fun x => decide (0 ≤ x ∧ x ≤ topW l)) = true then _ else _) else _) else _) _
 cases hg : glossB (wat l j).f0 with
 | false =>
  have e : goodAt l j = false := by rw [hE, hg, Bool.false_and]
  rw [e]
  simp only [Bool.false_eq_true, if_false]
  exact Ev.eq (areWords_j1 l j true r _ _ _ z1 hj (fun h => nomatch h)) rfl
 | true =>
  simp only [if_true]
  cases hi : inB (wat l j).f2 0 99999 with
  | false =>
   have e : goodAt l j = false := by rw [hE, hi, Bool.false_and, Bool.and_false, Bool.and_false, Bool.and_false]
   rw [e]
   simp only [Bool.false_eq_true, if_false]
   exact Ev.eq (areWords_j1 l j true r _ _ _ z1 hj (fun h => nomatch h)) rfl
  | true =>
   simp only [if_true]
   cases hw : ((wat l j).f1.all fun x => decide (0 ≤ x ∧ x ≤ topW l)) with
   | false =>
    have e : goodAt l j = false := by rw [hE, hw, Bool.false_and, Bool.false_and, Bool.and_false]
    rw [e]
    simp only [Bool.false_eq_true, if_false]
    exact Ev.eq (areWords_j1 l j true r _ _ _ z1 hj (fun h => nomatch h)) rfl
   | true =>
    simp only [if_true]
    refine Ev.bind (contains_ev _ _ (by omega)) ?_
    rw [hE, hg, hi, hw] at hc
    rw [hE, hg, hi, hw]
    refine Ev.eq (areWords_j1 l j _ r _ _ _ z1 hj (fun h1 h2 h3 => hc (by rw [h1, h2, h3]; rfl))) ?_
    cases decide ((j : Int) ∈ (wat l j).f1) <;> cases (decide (wat l j).f1.Nodup && sortB (wat l j).f1) <;> cases dupW (l.take j) (wat l j).f0 <;> rfl
theorem areWords_ev (l : List S62) (hl : l.length ≤ 1048576) (hz : WSz l) : Ev (fun k => impl_AreWords.f k l) (wordsB l) := by
 unfold impl_AreWords.f wordsB
 refine Ev.eq (Ev.all0 (L := fun k j => impl_AreWords.l0 k l l (l.length : Int) (j : Int)) (P := goodAt l) (n := l.length) (a := decide (l.length ≤ 16)) (b := false) ?_ ?_ ?_) (by cases (List.range l.length).all (goodAt l) <;> simp)
 ·refine Ev.succ ?_
  simp only [impl_AreWords.l0, Int.lt_irrefl, if_false]
  refine Ev.eq (Ev.now _) ?_
  rw [decide_eq_decide]
  omega
 ·intro j r hj hP h
  have := areWords_step l j r hz hj hl (fun _ => h)
  rw [hP, if_pos rfl] at this
  exact this
 ·intro j hj hP
  have := areWords_step l j false hz hj hl (fun h => by rw [hP] at h; cases h)
  rw [hP] at this
  exact this
theorem anyO_ev {α : Type} {p : Nat → α → Option Bool} {f : α → Bool} : ∀ {l : List α}, (∀ x, x ∈ l → Ev (fun k => p k x) (f x)) → Ev (fun k => Go.Proofs.YtnafjfdalapegaaGreatW.GIdx.anyO (p k) l) (l.any f)
 | [], _ => Ev.now _
 | x :: l, h => by
  unfold Go.Proofs.YtnafjfdalapegaaGreatW.GIdx.anyO
  refine Ev.bind (h x (List.mem_cons_self ..)) ?_
  rw [List.any_cons]
  cases f x with
  | true => exact Ev.now _
  | false => simpa using anyO_ev (l := l) fun y hy => h y (List.mem_cons_of_mem _ hy)
theorem ev_map {α β : Type} {g : Nat → Option α} {r : α} (h : Ev g r) (f : α → β) : Ev (fun k => (g k).map f) (f r) := by
 obtain ⟨K, h⟩ := h
 exact ⟨K, fun k hk => by show (g k).map f = some (f r); rw [h k hk]; rfl⟩
theorem any_not {α : Type} (l : List α) (f : α → Bool) : (!l.any fun x => !f x) = l.all f := by
 induction l with
 | nil => rfl
 | cons x l ih => rw [List.any_cons, List.all_cons, ← ih, Bool.not_or, Bool.not_not]
theorem allO_ev {α : Type} {p : Nat → α → Option Bool} {f : α → Bool} {l : List α} (h : ∀ x, x ∈ l → Ev (fun k => p k x) (f x)) : Ev (fun k => Go.Proofs.YtnafjfdalapegaaGreatW.GIdx.allO (p k) l) (l.all f) := by
 unfold Go.Proofs.YtnafjfdalapegaaGreatW.GIdx.allO
 have h1 := anyO_ev (p := fun k x => (p k x).map (!·)) (f := fun x => !f x) (l := l) (fun x hx => ev_map (h x hx) _)
 have h2 := ev_map h1 (fun b => !b)
 rw [any_not] at h2
 exact h2
theorem rdLx (l : List (List Int)) (j : Nat) : rd_L2 l (j : Int) = l.getD j [] := by simp [rd_L2]
theorem getL (l : List (List Int)) (j : Nat) (h : j < l.length) : l.getD j [] = l[j] := by rw [List.getD_eq_getElem?_getD, List.getElem?_eq_getElem h]; rfl
theorem flatLe {l : List (List Int)} {y : List Int} (h : y ∈ l) : y.length ≤ l.flatten.length := by
 obtain ⟨a, b, rfl⟩ := List.append_of_mem h
 rw [List.flatten_append, List.flatten_cons, List.length_append, List.length_append]
 omega
theorem takeFlat (l : List (List Int)) (n : Nat) : (l.take n).flatten.length ≤ l.flatten.length := by
 have : l.flatten.length = (l.take n).flatten.length + (l.drop n).flatten.length := by
  rw [← List.length_append, ← List.flatten_append, List.take_append_drop]
 omega
theorem dropFlat (l : List (List Int)) (n : Nat) (h : n < l.length) : (l.drop n).flatten = l[n] ++ (l.drop (n + 1)).flatten := by rw [List.drop_eq_getElem_cons h, List.flatten_cons]
theorem takeFlatSucc (l : List (List Int)) (n : Nat) (h : n < l.length) : (l.take (n + 1)).flatten = (l.take n).flatten ++ l[n] := by rw [List.take_succ_eq_append_getElem h, List.flatten_append]; simp
theorem topW_eq (l : List S62) (hl : l.length ≤ 1048576) : topW l = (l.length : Int) - 1 := by
 unfold topW
 rw [wrap_id (by omega) (by omega)]
/-! lists, one behind the other -/
theorem concat_l1 (ls : List (List Int)) (hs : ls.flatten.length ≤ 1048576) (hl : ls.length ≤ 1048576) : ∀ d n, n + d = ls.length → Ev (fun k => slices_Concat_int.l1 k (ls.take n).flatten ls (ls.length : Int) (n : Int)) ls.flatten := by
 intro d
 induction d with
 | zero =>
  intro n hn
  refine Ev.succ ?_
  have h1 : ((n : Int) < (ls.length : Int)) = False := eq_false (by omega)
  simp only [slices_Concat_int.l1, h1, if_false]
  rw [List.take_of_length_le (by omega)]
  exact Ev.now _
 | succ d ih =>
  intro n hn
  refine Ev.succ ?_
  have hlt : n < ls.length := by omega
  have h1 : ((n : Int) < (ls.length : Int)) = True := eq_true (by omega)
  have hy := flatLe (List.getElem_mem hlt)
  have ht := takeFlat ls n
  have h2 : ((ls.take n).flatten.length + ls[n].length < 17592186044416) = True := eq_true (by omega)
  simp only [slices_Concat_int.l1, h1, if_true, nat_nonneg, rdLx, getL ls n hlt, h2, wrap_succ (show n < 4611686018427387904 by omega)]
  rw [← takeFlatSucc ls n hlt]
  exact ih (n + 1) (by omega)
theorem concat_l0 (ls : List (List Int)) (hs : ls.flatten.length ≤ 1048576) (hl : ls.length ≤ 1048576) : ∀ d n, n + d = ls.length → Ev (fun k => slices_Concat_int.l0 k ls ((ls.take n).flatten.length : Int) ls (ls.length : Int) (n : Int)) ls.flatten := by
 intro d
 induction d with
 | zero =>
  intro n hn
  refine Ev.succ ?_
  have h1 : ((n : Int) < (ls.length : Int)) = False := eq_false (by omega)
  have ht := takeFlat ls n
  simp only [slices_Concat_int.l0, h1, if_false, slices_Grow_int.f, nat_nonneg, if_true, show (((ls.take n).flatten.length : Int) < 17592186044416) = True from eq_true (by omega), Option.bind_some]
  exact concat_l1 ls hs hl ls.length 0 (by omega)
 | succ d ih =>
  intro n hn
  refine Ev.succ ?_
  have hlt : n < ls.length := by omega
  have h1 : ((n : Int) < (ls.length : Int)) = True := eq_true (by omega)
  have hy := flatLe (List.getElem_mem hlt)
  have ht := takeFlat ls n
  have e : wrap64 (((ls.take n).flatten.length : Int) + (ls[n].length : Int)) = ((ls.take (n + 1)).flatten.length : Int) := by
   rw [wrap_id (by omega) (by omega), takeFlatSucc ls n hlt, List.length_append]
   omega
  have h2 : (((ls.take (n + 1)).flatten.length : Int) < 0) = False := eq_false (by omega)
  simp only [slices_Concat_int.l0, h1, if_true, nat_nonneg, rdLx, getL ls n hlt, e, h2, if_false, wrap_succ (show n < 4611686018427387904 by omega)]
  exact ih (n + 1) (by omega)
theorem concat_ev (ls : List (List Int)) (hs : ls.flatten.length ≤ 1048576) (hl : ls.length ≤ 1048576) : Ev (fun k => slices_Concat_int.f k ls) ls.flatten := by
 unfold slices_Concat_int.f
 exact concat_l0 ls hs hl ls.length 0 (by omega)
/-! what a word needs -/
def readyB (l : List S62) (done : List Int) (i : Int) : Bool := (wat l i.toNat).f1.all fun x => decide (x ∈ done)
theorem rdwI (l : List S62) (i : Int) : rd_T62 l i = wat l i.toNat := rfl
theorem all_range (l : List Int) (p : Int → Bool) : (List.range l.length).all (fun j => p (l.getD j 0)) = l.all p := by
 have hg : ∀ i (hi : i < l.length), l.getD i 0 = l[i] := fun i hi => by rw [List.getD_eq_getElem?_getD, List.getElem?_eq_getElem hi]; rfl
 rw [Bool.eq_iff_iff, List.all_eq_true, List.all_eq_true]
 constructor
 ·intro h x hx
  obtain ⟨i, hi, rfl⟩ := List.getElem_of_mem hx
  have := h i (List.mem_range.2 hi)
  rwa [hg i hi] at this
 ·intro h j hj
  rw [hg j (List.mem_range.1 hj)]
  exact h _ (List.getElem_mem _)
theorem leReady_ev (l : List S62) (done : List Int) (i : Int) (hz : WSz l) (hd : done.length ≤ 1048576) (h0 : 0 ≤ i) (h1 : i < l.length) : Ev (fun k => spec_leReady.f k l done i) (readyB l done i) := by
 unfold spec_leReady.f readyB
 have hn := (wsz_at hz (show i.toNat < l.length by omega)).1
 simp only [eq_true h0, eq_true h1, if_true, rdwI]
 generalize (wat l i.toNat).f1 = n at hn
 refine Ev.eq (Ev.all0 (L := fun k j => spec_leReady.l0 k done n (n.length : Int) (j : Int)) (P := fun j => decide (n.getD j 0 ∈ done)) (n := n.length) (a := true) (b := false) ?_ ?_ ?_) (by rw [all_range n (fun x => decide (x ∈ done))]; cases n.all fun x => decide (x ∈ done) <;> rfl)
 ·refine Ev.succ ?_
  simp only [spec_leReady.l0, Int.lt_irrefl, if_false]
  exact Ev.now _
 ·intro j r hj hP h
  refine Ev.succ ?_
  have h1 : ((j : Int) < (n.length : Int)) = True := eq_true (by omega)
  simp only [spec_leReady.l0, h1, if_true, nat_nonneg, rdJ, wrap_succ (show j < 4611686018427387904 by omega)]
  refine Ev.bind (l1Has_ev _ _ (by omega)) ?_
  simp only [hP, if_true]
  exact h
 ·intro j hj hP
  refine Ev.succ ?_
  have h1 : ((j : Int) < (n.length : Int)) = True := eq_true (by omega)
  simp only [spec_leReady.l0, h1, if_true, nat_nonneg, rdJ]
  refine Ev.bind (l1Has_ev _ _ (by omega)) ?_
  simp only [hP, Bool.false_eq_true, if_false]
  exact Ev.now _
theorem hasNeeds_ev (w : S62) (done : List Int) (hd : done.length ≤ 1048576) : Ev (fun k => impl_hasNeeds.f k w.f0 w.f1 w.f2 done) (w.f1.all fun x => decide (x ∈ done)) := by
 unfold impl_hasNeeds.f impl_hasNeeds_1.f impl_allOf_int.f
 exact Ev.bind (allO_ev (fun x _ => contains_ev done x (by omega))) (Ev.now _)
theorem areLessons1_ev (l : List S62) (y done : List Int) (hd : done.length ≤ 1048576) (hy : ∀ x, x ∈ y → 0 ≤ x ∧ x < l.length) : Ev (fun k => impl_areLessons_1.f k y l done) (y.all (readyB l done)) := by
 unfold impl_areLessons_1.f impl_allOf_int.f
 refine allO_ev (fun x hx => ?_)
 obtain ⟨h0, h1⟩ := hy x hx
 simp only [eq_true h0, eq_true h1, if_true, rdwI]
 exact hasNeeds_ev (wat l x.toNat) done hd
/-! lists of good indices, none of them twice -/
def okFrom (l : List S62) : List Int → List Int → Bool
 | _, [] => true
 | acc, x :: t => inB x 0 (topW l) && (!(decide (x ∈ acc)) && okFrom l (acc ++ [x]) t)
theorem okFrom_append (l : List S62) : ∀ (a b acc : List Int), okFrom l acc (a ++ b) = (okFrom l acc a && okFrom l (acc ++ a) b)
 | [], b, acc => by simp [okFrom]
 | x :: a, b, acc => by
  show (inB x 0 (topW l) && (!(decide (x ∈ acc)) && okFrom l (acc ++ [x]) (a ++ b))) = ((inB x 0 (topW l) && (!(decide (x ∈ acc)) && okFrom l (acc ++ [x]) a)) && okFrom l (acc ++ x :: a) b)
  rw [okFrom_append l a b (acc ++ [x]), List.append_assoc, List.singleton_append, Bool.and_assoc, Bool.and_assoc]
theorem okFrom_iff (l : List S62) : ∀ (t acc : List Int), okFrom l acc t = true ↔ (∀ x, x ∈ t → 0 ≤ x ∧ x ≤ topW l) ∧ t.Nodup ∧ ∀ x, x ∈ t → x ∉ acc
 | [], acc => by simp [okFrom]
 | x :: t, acc => by
  unfold okFrom inB
  rw [Bool.and_eq_true, Bool.and_eq_true, okFrom_iff l t (acc ++ [x]), decide_eq_true_eq, Bool.not_eq_true', decide_eq_false_iff_not, List.nodup_cons]
  constructor
  ·rintro ⟨h1, h2, h3, h4, h5⟩
   refine ⟨fun z hz => ?_, ⟨fun hx => ?_, h4⟩, fun z hz => ?_⟩
   ·rcases List.mem_cons.1 hz with rfl | hz
    ·exact h1
    ·exact h3 z hz
   ·exact h5 x hx (by simp)
   ·rcases List.mem_cons.1 hz with rfl | hz
    ·exact h2
    ·exact fun h => h5 z hz (by simp [h])
  ·rintro ⟨h1, ⟨h2, h3⟩, h4⟩
   refine ⟨h1 x (List.mem_cons_self ..), h4 x (List.mem_cons_self ..), fun z hz => h1 z (List.mem_cons_of_mem _ hz), h3, fun z hz h => ?_⟩
   rcases List.mem_append.1 h with h | h
   ·exact h4 z (List.mem_cons_of_mem _ hz) h
   ·rw [List.mem_singleton] at h
    subst h
    exact h2 hz
theorem okFrom_flat (l : List S62) (t : List Int) : okFrom l [] t = (t.all (fun x => decide (0 ≤ x ∧ x ≤ topW l)) && decide t.Nodup) := by
 rw [Bool.eq_iff_iff, okFrom_iff, Bool.and_eq_true, List.all_eq_true, decide_eq_true_eq]
 constructor
 ·rintro ⟨h1, h2, _⟩
  exact ⟨fun x hx => decide_eq_true (h1 x hx), h2⟩
 ·rintro ⟨h1, h2⟩
  exact ⟨fun x hx => of_decide_eq_true (h1 x hx), h2, fun x _ h => nomatch h⟩
theorem leFair_l1 (l : List S62) (ls : List (List Int)) (n : Nat) (y : List Int) (r : Bool) (hy : y.length ≤ 1048576) : ∀ d i (acc : List Int), i + d = y.length → acc.length + d ≤ 1048576 → Ev (fun k => spec_leFair.l0 k l ls (acc ++ y.drop i) ls (ls.length : Int) (wrap64 ((n : Int) + 1))) r → Ev (fun k => spec_leFair.l1 k l ls acc ls (ls.length : Int) (n : Int) y (y.length : Int) (i : Int)) (if okFrom l acc (y.drop i) then r else false) := by
 intro d
 induction d with
 | zero =>
  intro i acc hi ha hc
  refine Ev.succ ?_
  have h1 : ((i : Int) < (y.length : Int)) = False := eq_false (by omega)
  rw [List.drop_of_length_le (by omega), List.append_nil] at hc
  rw [List.drop_of_length_le (by omega)]
  simp only [spec_leFair.l1, h1, if_false, okFrom, if_true]
  exact hc
 | succ d ih =>
  intro i acc hi ha hc
  refine Ev.succ ?_
  have hlt : i < y.length := by omega
  have h1 : ((i : Int) < (y.length : Int)) = True := eq_true (by omega)
  have hg : y.getD i 0 = y[i] := by rw [List.getD_eq_getElem?_getD, List.getElem?_eq_getElem hlt]; rfl
  have h2 : (acc.length < 17592186044416) = True := eq_true (by omega)
  have e : okFrom l acc (y.drop i) = (inB y[i] 0 (topW l) && (!(decide (y[i] ∈ acc)) && okFrom l (acc ++ [y[i]]) (y.drop (i + 1)))) := by rw [List.drop_eq_getElem_cons hlt]; rfl
  rw [e]
  simp only [spec_leFair.l1, h1, if_true, nat_nonneg, rdJ, hg, l1In_eq, Option.bind_some, h2, wrap_succ (show i < 4611686018427387904 by omega)]
  change Ev (fun k => if inB y[i] 0 (topW l) = true then _ else _) _
  cases inB y[i] 0 (topW l) with
  | false =>
   simp only [Bool.false_eq_true, if_false, Bool.false_and]
   exact Ev.now _
  | true =>
   simp only [if_true, Bool.true_and]
   refine Ev.bind (l1Has_ev _ _ (by omega)) ?_
   cases decide (y[i] ∈ acc) with
   | true =>
    simp only [if_true, Bool.not_true, Bool.false_and, Bool.false_eq_true, if_false]
    exact Ev.now _
   | false =>
    simp only [Bool.false_eq_true, if_false, Bool.not_false, Bool.true_and]
    refine ih (i + 1) (acc ++ [y[i]]) (by omega) (by rw [List.length_append]; simp; omega) ?_
    rw [List.append_assoc, List.singleton_append, ← List.drop_eq_getElem_cons hlt]
    exact hc
theorem leFair_l0 (l : List S62) (ls : List (List Int)) (hs : ls.flatten.length ≤ 1048576) (hl : ls.length ≤ 1048576) : ∀ d n, n + d = ls.length → Ev (fun k => spec_leFair.l0 k l ls (ls.take n).flatten ls (ls.length : Int) (n : Int)) (if okFrom l (ls.take n).flatten (ls.drop n).flatten then decide (ls.length ≤ 16) else false) := by
 intro d
 induction d with
 | zero =>
  intro n hn
  refine Ev.succ ?_
  have h1 : ((n : Int) < (ls.length : Int)) = False := eq_false (by omega)
  rw [List.drop_of_length_le (by omega)]
  simp only [spec_leFair.l0, h1, if_false, List.flatten_nil, okFrom, if_true]
  refine Ev.eq (Ev.now _) ?_
  rw [decide_eq_decide]
  omega
 | succ d ih =>
  intro n hn
  refine Ev.succ ?_
  have hlt : n < ls.length := by omega
  have h1 : ((n : Int) < (ls.length : Int)) = True := eq_true (by omega)
  have hy := flatLe (List.getElem_mem hlt)
  have ht : (ls.take (n + 1)).flatten.length ≤ ls.flatten.length := takeFlat ls (n + 1)
  rw [takeFlatSucc ls n hlt, List.length_append] at ht
  simp only [spec_leFair.l0, h1, if_true, nat_nonneg, rdLx, getL ls n hlt]
  have h2 := ih (n + 1) (by omega)
  rw [takeFlatSucc ls n hlt] at h2
  have h3 := leFair_l1 l ls n ls[n] _ (by omega) ls[n].length 0 (ls.take n).flatten (by omega) (by omega) (by rw [List.drop_zero, wrap_succ (show n < 4611686018427387904 by omega)]; exact h2)
  rw [List.drop_zero] at h3
  refine Ev.eq h3 ?_
  rw [dropFlat ls n hlt, okFrom_append]
  cases okFrom l (ls.take n).flatten ls[n] <;> simp
def fairB (l : List S62) (ls : List (List Int)) : Bool := okFrom l [] ls.flatten && decide (ls.length ≤ 16)
theorem leFair_ev (l : List S62) (ls : List (List Int)) (hs : ls.flatten.length ≤ 1048576) (hl : ls.length ≤ 1048576) : Ev (fun k => spec_leFair.f k l ls) (fairB l ls) := by
 unfold spec_leFair.f fairB
 have := leFair_l0 l ls hs hl ls.length 0 (by omega)
 refine Ev.eq this ?_
 rw [List.take_zero, List.drop_zero, List.flatten_nil]
 cases okFrom l [] ls.flatten <;> simp
/-! the first word that is not ready -/
def unt (l : List S62) : List Int → Nat → List (List Int) → Int × Int
 | _, _, [] => (-1, -1)
 | done, n, y :: t => match y.find? (fun x => !readyB l done x) with
  | some x => ((n : Int), x)
  | none => unt l (done ++ y) (n + 1) t
theorem leUntaught_l1 (l : List S62) (ls : List (List Int)) (done y : List Int) (n : Nat) (r : Int × Int) (hz : WSz l) (hd : done.length + y.length ≤ 1048576) (hy : ∀ x, x ∈ y → 0 ≤ x ∧ x < l.length) (hc : Ev (fun k => spec_leUntaught.l0 k l (done ++ y) ls (ls.length : Int) (wrap64 ((n : Int) + 1))) r) : ∀ d i, i + d = y.length → Ev (fun k => spec_leUntaught.l1 k l done (n : Int) y ls (ls.length : Int) (n : Int) y (y.length : Int) (i : Int)) (match (y.drop i).find? (fun x => !readyB l done x) with | some x => ((n : Int), x) | none => r) := by
 intro d
 induction d with
 | zero =>
  intro i hi
  refine Ev.succ ?_
  have h1 : ((i : Int) < (y.length : Int)) = False := eq_false (by omega)
  have h2 : (done.length + y.length < 17592186044416) = True := eq_true (by omega)
  rw [List.drop_of_length_le (by omega)]
  simp only [spec_leUntaught.l1, h1, if_false, h2, if_true, List.find?_nil]
  exact hc
 | succ d ih =>
  intro i hi
  refine Ev.succ ?_
  have hlt : i < y.length := by omega
  have h1 : ((i : Int) < (y.length : Int)) = True := eq_true (by omega)
  have hg : y.getD i 0 = y[i] := by rw [List.getD_eq_getElem?_getD, List.getElem?_eq_getElem hlt]; rfl
  have hb := hy y[i] (List.getElem_mem hlt)
  rw [List.drop_eq_getElem_cons hlt, List.find?_cons]
  simp only [spec_leUntaught.l1, h1, if_true, nat_nonneg, rdJ, hg, wrap_succ (show i < 4611686018427387904 by omega)]
  refine Ev.bind (leReady_ev l done y[i] hz (by omega) hb.1 hb.2) ?_
  cases readyB l done y[i] with
  | true =>
   simp only [if_true, Bool.not_true]
   exact ih (i + 1) (by omega)
  | false =>
   simp only [Bool.false_eq_true, if_false, Bool.not_false]
   exact Ev.now _
theorem leUntaught_l0 (l : List S62) (ls : List (List Int)) (hz : WSz l) (hs : ls.flatten.length ≤ 1048576) (hl : ls.length ≤ 1048576) (hy : ∀ x, x ∈ ls.flatten → 0 ≤ x ∧ x < l.length) : ∀ d n, n + d = ls.length → Ev (fun k => spec_leUntaught.l0 k l (ls.take n).flatten ls (ls.length : Int) (n : Int)) (unt l (ls.take n).flatten n (ls.drop n)) := by
 intro d
 induction d with
 | zero =>
  intro n hn
  refine Ev.succ ?_
  have h1 : ((n : Int) < (ls.length : Int)) = False := eq_false (by omega)
  rw [List.drop_of_length_le (by omega)]
  simp only [spec_leUntaught.l0, h1, if_false, unt]
  exact Ev.now _
 | succ d ih =>
  intro n hn
  refine Ev.succ ?_
  have hlt : n < ls.length := by omega
  have h1 : ((n : Int) < (ls.length : Int)) = True := eq_true (by omega)
  have ht : (ls.take (n + 1)).flatten.length ≤ ls.flatten.length := takeFlat ls (n + 1)
  rw [takeFlatSucc ls n hlt, List.length_append] at ht
  simp only [spec_leUntaught.l0, h1, if_true, nat_nonneg, rdLx, getL ls n hlt]
  have h2 := ih (n + 1) (by omega)
  rw [takeFlatSucc ls n hlt] at h2
  have h3 := leUntaught_l1 l ls (ls.take n).flatten ls[n] n _ hz (by omega) (fun x hx => hy x (List.mem_flatten.2 ⟨_, List.getElem_mem hlt, hx⟩)) (by rw [wrap_succ (show n < 4611686018427387904 by omega)]; exact h2) ls[n].length 0 (by omega)
  rw [List.drop_zero] at h3
  rw [List.drop_eq_getElem_cons hlt]
  exact h3
theorem leUntaught_ev (l : List S62) (ls : List (List Int)) (hz : WSz l) (hs : ls.flatten.length ≤ 1048576) (hl : ls.length ≤ 1048576) (hy : ∀ x, x ∈ ls.flatten → 0 ≤ x ∧ x < l.length) : Ev (fun k => spec_leUntaught.f k l ls) (unt l [] 0 ls) := by
 unfold spec_leUntaught.f
 have := leUntaught_l0 l ls hz hs hl hy ls.length 0 (by omega)
 rwa [List.take_zero, List.drop_zero, List.flatten_nil] at this
/-! good lessons -/
def stepsB (l : List S62) : List Int → List (List Int) → Bool
 | _, [] => true
 | done, y :: t => decide (y.length ≠ 0) && (y.all (readyB l done) && stepsB l (done ++ y) t)
theorem find_all (y : List Int) (p : Int → Bool) : (y.find? (fun x => !p x) = none) ↔ y.all p = true := by
 rw [List.find?_eq_none, List.all_eq_true]
 simp
theorem steps_eq (l : List S62) : ∀ (ls : List (List Int)) (done : List Int) (n : Nat), stepsB l done ls = (ls.all (fun y => decide (y.length ≠ 0)) && decide ((unt l done n ls).1 < 0))
 | [], done, n => by simp [stepsB, unt]
 | y :: t, done, n => by
  unfold stepsB unt
  rw [List.all_cons, steps_eq l t (done ++ y) (n + 1)]
  cases hf : y.find? (fun x => !readyB l done x) with
  | none =>
   rw [(find_all y (readyB l done)).1 hf, Bool.true_and, Bool.and_assoc]
  | some x =>
   have : y.all (readyB l done) = false := by
    rw [← Bool.not_eq_true]
    intro h
    rw [(find_all y (readyB l done)).2 h] at hf
    cases hf
   rw [this, Bool.false_and, Bool.and_false]
   have h2 : ¬ ((n : Int) < 0) := by omega
   simp [h2]
def lessB (l : List S62) (ls : List (List Int)) : Bool := decide (ls.flatten.length = l.length) && (okFrom l [] ls.flatten && stepsB l [] ls)
theorem leAre_l0 (l : List S62) (ls : List (List Int)) (hl0 : l.length ≤ 1048576) (hz : WSz l) (hs : ls.flatten.length ≤ 1048576) (hl : ls.length ≤ 1048576) (hy : ∀ x, x ∈ ls.flatten → 0 ≤ x ∧ x < l.length) : ∀ d n, n + d = ls.length → Ev (fun k => spec_leAre.l0 k l ls ((ls.take n).flatten.length : Int) ls (ls.length : Int) (n : Int)) ((ls.drop n).all (fun y => decide (y.length ≠ 0)) && (decide (ls.flatten.length = l.length) && decide ((unt l [] 0 ls).1 < 0))) := by
 intro d
 induction d with
 | zero =>
  intro n hn
  refine Ev.succ ?_
  have h1 : ((n : Int) < (ls.length : Int)) = False := eq_false (by omega)
  rw [List.drop_of_length_le (by omega), List.take_of_length_le (by omega)]
  simp only [spec_leAre.l0, h1, if_false, List.all_nil, Bool.true_and]
  refine Ev.bind (leUntaught_ev l ls hz hs hl hy) ?_
  by_cases h2 : ls.flatten.length = l.length
  ·simp only [h2, if_true, decide_true, Bool.true_and]
   exact Ev.now _
  ·have h3 : ((ls.flatten.length : Int) = (l.length : Int)) = False := eq_false (by omega)
   simp only [h3, h2, if_false, decide_false, Bool.false_and]
   exact Ev.now _
 | succ d ih =>
  intro n hn
  refine Ev.succ ?_
  have hlt : n < ls.length := by omega
  have h1 : ((n : Int) < (ls.length : Int)) = True := eq_true (by omega)
  have hle := flatLe (List.getElem_mem hlt)
  have ht := takeFlat ls n
  rw [List.drop_eq_getElem_cons hlt, List.all_cons]
  have e : wrap64 (((ls.take n).flatten.length : Int) + (ls[n].length : Int)) = ((ls.take (n + 1)).flatten.length : Int) := by
   rw [wrap_id (by omega) (by omega), takeFlatSucc ls n hlt, List.length_append]
   omega
  by_cases h2 : ls[n].length = 0
  ·have h3 : ((ls[n].length : Int) = 0) = True := eq_true (by omega)
   simp only [spec_leAre.l0, h1, if_true, nat_nonneg, rdLx, getL ls n hlt, h3, h2, ne_eq, not_true_eq_false, decide_false, Bool.false_and]
   exact Ev.now _
  ·have h3 : ((ls[n].length : Int) = 0) = False := eq_false (by omega)
   simp only [spec_leAre.l0, h1, if_true, nat_nonneg, rdLx, getL ls n hlt, h3, if_false, e, wrap_succ (show n < 4611686018427387904 by omega), ne_eq, h2, not_false_eq_true, decide_true, Bool.true_and]
   exact ih (n + 1) (by omega)
theorem ok_range {l : List S62} {t : List Int} (hl0 : l.length ≤ 1048576) (h : okFrom l [] t = true) : ∀ x, x ∈ t → 0 ≤ x ∧ x < l.length := by
 intro x hx
 have := ((okFrom_iff l t []).1 h).1 x hx
 rw [topW_eq l hl0] at this
 omega
theorem leAre_ev (l : List S62) (ls : List (List Int)) (hl0 : l.length ≤ 1048576) (hz : WSz l) (hs : ls.flatten.length ≤ 1048576) (hl : ls.length ≤ 1048576) : Ev (fun k => spec_leAre.f k l ls) (decide (ls.length ≤ 16) && lessB l ls) := by
 unfold spec_leAre.f lessB
 refine Ev.bind (leFair_ev l ls hs hl) ?_
 unfold fairB
 rw [steps_eq l ls [] 0]
 cases h1 : okFrom l [] ls.flatten with
 | false =>
  simp only [Bool.false_and, Bool.and_false, Bool.false_eq_true, if_false]
  exact Ev.now _
 | true =>
  cases decide (ls.length ≤ 16) with
  | false =>
   simp only [Bool.false_and, Bool.and_false, Bool.false_eq_true, if_false]
   exact Ev.now _
  | true =>
   simp only [Bool.true_and, if_true]
   refine Ev.eq (leAre_l0 l ls hl0 hz hs hl (ok_range hl0 h1) ls.length 0 (by omega)) ?_
   rw [List.drop_zero]
   cases ls.all (fun y => decide (y.length ≠ 0)) <;> cases decide (ls.flatten.length = l.length) <;> rfl
theorem areLessons_l0 (l : List S62) (ls : List (List Int)) (hs : ls.flatten.length ≤ 1048576) (hl : ls.length ≤ 1048576) (hy : ∀ x, x ∈ ls.flatten → 0 ≤ x ∧ x < l.length) : ∀ d n, n + d = ls.length → Ev (fun k => impl_areLessons.l0 k ls ls (ls.length : Int) (n : Int) l) (stepsB l (ls.take n).flatten (ls.drop n)) := by
 intro d
 induction d with
 | zero =>
  intro n hn
  refine Ev.succ ?_
  have h1 : ((n : Int) < (ls.length : Int)) = False := eq_false (by omega)
  rw [List.drop_of_length_le (by omega)]
  simp only [impl_areLessons.l0, h1, if_false, stepsB]
  exact Ev.now _
 | succ d ih =>
  intro n hn
  refine Ev.succ ?_
  have hlt : n < ls.length := by omega
  have h1 : ((n : Int) < (ls.length : Int)) = True := eq_true (by omega)
  have h2 : ((n : Int) ≤ (ls.length : Int)) = True := eq_true (by omega)
  have ht := takeFlat ls n
  simp only [impl_areLessons.l0, h1, h2, if_true, nat_nonneg, rdLx, getL ls n hlt, Int.toNat_natCast, wrap_succ (show n < 4611686018427387904 by omega)]
  refine Ev.bind (concat_ev (ls.take n) (by omega) (by rw [List.length_take]; omega)) ?_
  have e : stepsB l (ls.take n).flatten (ls.drop n) = (decide (ls[n].length ≠ 0) && (ls[n].all (readyB l (ls.take n).flatten) && stepsB l ((ls.take n).flatten ++ ls[n]) (ls.drop (n + 1)))) := by rw [List.drop_eq_getElem_cons hlt]; rfl
  rw [e]
  by_cases h3 : ls[n].length = 0
  ·have h4 : ((ls[n].length : Int) = 0) = True := eq_true (by omega)
   simp only [h4, if_true, h3, ne_eq, not_true_eq_false, decide_false, Bool.false_and]
   exact Ev.now _
  ·have h4 : ((ls[n].length : Int) = 0) = False := eq_false (by omega)
   simp only [h4, if_false, h3, ne_eq, not_false_eq_true, decide_true, Bool.true_and]
   refine Ev.bind (areLessons1_ev l ls[n] (ls.take n).flatten (by omega) (fun x hx => hy x (List.mem_flatten.2 ⟨_, List.getElem_mem hlt, hx⟩))) ?_
   cases ls[n].all (readyB l (ls.take n).flatten) with
   | true =>
    simp only [if_true, Bool.true_and]
    rw [← takeFlatSucc ls n hlt]
    exact ih (n + 1) (by omega)
   | false =>
    simp only [Bool.false_eq_true, if_false, Bool.false_and]
    exact Ev.now _
theorem areLessons_ev (l : List S62) (ls : List (List Int)) (hl0 : l.length ≤ 1048576) (hs : ls.flatten.length ≤ 1048576) (hl : ls.length ≤ 1048576) : Ev (fun k => impl_areLessons.f k l ls) (lessB l ls) := by
 unfold impl_areLessons.f lessB
 refine Ev.bind (concat_ev ls hs hl) ?_
 by_cases h1 : ls.flatten.length = l.length
 ·have h2 : ((ls.flatten.length : Int) = (l.length : Int)) = True := eq_true (by omega)
  simp only [h2, h1, if_true, decide_true, Bool.true_and, impl_allWithin.f, Option.bind_some]
  have ho := okFrom_flat l ls.flatten
  change Ev (fun k => if (ls.flatten.all fun x => decide (0 ≤ x ∧ x ≤ topW l)) = true then _ else _) _
  cases h3 : (ls.flatten.all fun x => decide (0 ≤ x ∧ x ≤ topW l)) with
  | false =>
   rw [h3, Bool.false_and] at ho
   rw [ho]
   simp only [Bool.false_eq_true, if_false, Bool.false_and]
   refine Ev.succ ?_
   simp only [impl_areLessons.j0, if_true]
   exact Ev.now _
  | true =>
   rw [h3, Bool.true_and] at ho
   simp only [if_true]
   obtain ⟨t, ht, hd⟩ := distinct_len ls.flatten (by omega)
   simp only [ht, Option.bind_some]
   refine Ev.succ ?_
   by_cases h4 : ls.flatten.Nodup
   ·have h5 : (((t.length : Int)) != ((ls.flatten.length : Int))) = false := by have := hd.2 h4; simp [this]
    rw [decide_eq_true h4] at ho
    rw [ho]
    rw [h1] at h5
    simp only [impl_areLessons.j0, h5, Bool.false_eq_true, if_false, Bool.true_and]
    exact areLessons_l0 l ls hs hl (ok_range hl0 ho) ls.length 0 (by omega)
   ·have h5 : (((t.length : Int)) != ((ls.flatten.length : Int))) = true := by
     have : t.length ≠ ls.flatten.length := fun e => h4 (hd.1 e)
     rw [bne_iff_ne]
     intro e
     exact this (by omega)
    rw [decide_eq_false h4] at ho
    rw [ho]
    rw [h1] at h5
    simp only [impl_areLessons.j0, h5, if_true, Bool.false_and]
    exact Ev.now _
 ·have h2 : ((ls.flatten.length : Int) = (l.length : Int)) = False := eq_false (by omega)
  simp only [h2, h1, if_false, decide_false, Bool.false_and]
  refine Ev.succ ?_
  simp only [impl_areLessons.j0, if_true]
  exact Ev.now _
def goodB (l : List S62) (ls : List (List Int)) : Bool := wordsB l && (decide (ls.length ≤ 16) && lessB l ls)
theorem areGood_ev (l : List S62) (ls : List (List Int)) (hl0 : l.length ≤ 1048576) (hz : WSz l) (hs : ls.flatten.length ≤ 1048576) (hl : ls.length ≤ 1048576) : Ev (fun k => impl_areGood.f k l ls) (goodB l ls) := by
 unfold impl_areGood.f goodB
 refine Ev.bind (areWords_ev l hl0 hz) ?_
 cases wordsB l with
 | false =>
  simp only [Bool.false_eq_true, if_false, Bool.false_and]
  exact Ev.now _
 | true =>
  simp only [if_true, Bool.true_and]
  by_cases h : ls.length ≤ 16
  ·have h2 : ((ls.length : Int) ≤ 16) = True := eq_true (by omega)
   simp only [h2, h, if_true, decide_true, Bool.true_and]
   exact Ev.bind (areLessons_ev l ls hl0 hs hl) (Ev.now _)
  ·have h2 : ((ls.length : Int) ≤ 16) = False := eq_false (by omega)
   simp only [h2, h, if_false, decide_false, Bool.false_and]
   exact Ev.now _
theorem exAsked_ev (l : List S62) (ls : List (List Int)) (n : Int) (hl0 : l.length ≤ 1048576) (hz : WSz l) (hs : ls.flatten.length ≤ 1048576) (hl : ls.length ≤ 1048576) : Ev (fun k => spec_exAsked.f k l ls n) (goodB l ls && inB n 0 ls.length) := by
 unfold spec_exAsked.f goodB
 refine Ev.bind (leGood_ev l hl0 hz) ?_
 cases wordsB l with
 | false =>
  simp only [Bool.false_eq_true, if_false, Bool.false_and]
  exact Ev.now _
 | true =>
  simp only [if_true, Bool.true_and]
  refine Ev.bind (leAre_ev l ls hl0 hz hs hl) ?_
  cases decide (ls.length ≤ 16) && lessB l ls with
  | false =>
   simp only [Bool.false_eq_true, if_false, Bool.false_and]
   exact Ev.now _
  | true =>
   simp only [if_true, Bool.true_and, l1In_eq, Option.bind_some]
   exact Ev.now _
theorem isTaught_ev (ls : List (List Int)) (x : Int) (hs : ls.flatten.length ≤ 1048576) : Ev (fun k => impl_isTaught.f k ls x) (decide (x ∈ ls.flatten)) := by
 unfold impl_isTaught.f impl_isTaught_1.f
 have h := anyO_ev (p := fun k y => slices_Contains_int.f k y x) (f := fun y => decide (x ∈ y)) (l := ls) (fun y hy => contains_ev y x (by have := flatLe hy; omega))
 refine Ev.bind h (Ev.eq (Ev.now _) ?_)
 rw [Bool.eq_iff_iff, List.any_eq_true, decide_eq_true_eq, List.mem_flatten]
 simp
theorem upI_unique {n m : List Int} (hn : n.Pairwise (· < ·)) (hm : m.Pairwise (· < ·)) (h : ∀ x, x ∈ n ↔ x ∈ m) : n = m := by
 have nd : ∀ {l : List Int}, l.Pairwise (· < ·) → l.Nodup := fun {l} hl => List.Pairwise.imp (S := fun a b : Int => a ≠ b) (fun {a b} (hlt : a < b) e => by omega) hl
 have hp := (List.perm_ext_iff_of_nodup (nd hn) (nd hm)).2 h
 exact List.Perm.eq_of_pairwise (le := fun a b : Int => a < b) (fun a b _ _ h1 h2 => by omega) hn hm hp
/-- Into a rising row. -/
theorem putI_l0 (l : List Int) (x : Int) (hl : l.length ≤ 4000000) (hu : l.Pairwise (· < ·)) : ∀ d j, j + d = l.length → (∀ y, y ∈ l.take j → y < x) → ∃ r : List Int, Ev (fun k => spec_l1Put.l0 k l x (j : Int)) r ∧ r.Pairwise (· < ·) ∧ (∀ y, y ∈ r ↔ y ∈ l ∨ y = x) ∧ r.length ≤ l.length + 1 := by
 have ins : ∀ j, j ≤ l.length → (∀ y, y ∈ l.take j → y < x) → (∀ y, y ∈ l.drop j → x < y) → (l.take j ++ [x] ++ l.drop j).Pairwise (· < ·) ∧ (∀ y, y ∈ l.take j ++ [x] ++ l.drop j ↔ y ∈ l ∨ y = x) ∧ (l.take j ++ [x] ++ l.drop j).length ≤ l.length + 1 := by
  intro j hj hb ha
  have e : ∀ y, y ∈ l ↔ y ∈ l.take j ∨ y ∈ l.drop j := fun y => by rw [← List.mem_append, List.take_append_drop]
  refine ⟨?_, fun y => ?_, ?_⟩
  ·rw [List.append_assoc, List.pairwise_append, List.singleton_append, List.pairwise_cons]
   refine ⟨hu.sublist (List.take_sublist _ _), ⟨ha, hu.sublist (List.drop_sublist _ _)⟩, fun a h1 b h2 => ?_⟩
   have h3 := hb a h1
   rcases List.mem_cons.1 h2 with rfl | h2
   ·exact h3
   ·have := ha b h2
    omega
  ·rw [e]
   simp only [List.mem_append, List.mem_singleton]
   constructor
   ·rintro ((h | h) | h)
    ·exact Or.inl (Or.inl h)
    ·exact Or.inr h
    ·exact Or.inl (Or.inr h)
   ·rintro ((h | h) | h)
    ·exact Or.inl (Or.inl h)
    ·exact Or.inr h
    ·exact Or.inl (Or.inr h)
  ·simp only [List.length_append, List.length_take, List.length_drop, List.length_singleton]
   omega
 intro d
 induction d with
 | zero =>
  intro j hj hb
  obtain ⟨i0, i1, i2⟩ := ins j (by omega) hb (by rw [List.drop_of_length_le (by omega)]; intro y hy; cases hy)
  refine ⟨l.take j ++ [x] ++ l.drop j, Ev.succ ?_, i0, i1, i2⟩
  have h1 : ((j : Int) < (l.length : Int)) = False := eq_false (by omega)
  have h2 : ((j : Int) ≤ (l.length : Int)) = True := eq_true (by omega)
  have h3 : (0 + (l.take j).length < 17592186044416) = True := eq_true (by rw [List.length_take]; omega)
  have h4 : ((l.take j).length < 17592186044416) = True := eq_true (by rw [List.length_take]; omega)
  have h5 : ((l.take j ++ [x]).length + (l.drop j).length < 17592186044416) = True := eq_true (by simp only [List.length_append, List.length_take, List.length_drop, List.length_singleton]; omega)
  simp only [spec_l1Put.l0, h1, if_false, Option.bind_some, nat_nonneg, if_true, h2, Int.toNat_natCast, List.length_nil, h3, List.nil_append, h4, h5]
  exact Ev.now _
 | succ d ih =>
  intro j hj hb
  have hlt : j < l.length := by omega
  have h1 : ((j : Int) < (l.length : Int)) = True := eq_true (by omega)
  have h2 : ((j : Int) ≤ (l.length : Int)) = True := eq_true (by omega)
  have hg : l.getD j 0 = l[j] := by rw [List.getD_eq_getElem?_getD, List.getElem?_eq_getElem hlt]; rfl
  by_cases h6 : l[j] < x
  ·obtain ⟨r, hr, h0, hm, hn⟩ := ih (j + 1) (by omega) (fun y hy => by
    rw [List.take_succ_eq_append_getElem hlt, List.mem_append, List.mem_singleton] at hy
    rcases hy with hy | rfl
    ·exact hb y hy
    ·exact h6)
   refine ⟨r, Ev.succ ?_, h0, hm, hn⟩
   simp only [spec_l1Put.l0, h1, if_true, nat_nonneg, rdJ, hg, eq_true h6, wrap_succ (show j < 4611686018427387904 by omega)]
   exact hr
  ·by_cases h7 : l[j] = x
   ·refine ⟨l, Ev.succ ?_, hu, fun y => ⟨fun h => Or.inl h, fun h => h.elim id (fun e => by rw [e, ← h7]; exact List.getElem_mem hlt)⟩, by omega⟩
    simp only [spec_l1Put.l0, h1, if_true, nat_nonneg, rdJ, hg, eq_false h6, if_false, eq_true h7]
    exact Ev.now _
   ·obtain ⟨i0, i1, i2⟩ := ins j (by omega) hb (fun y hy => by
     rw [List.drop_eq_getElem_cons hlt] at hy
     rcases List.mem_cons.1 hy with rfl | hy
     ·omega
     ·have h8 : (l.drop j).Pairwise (· < ·) := hu.sublist (List.drop_sublist _ _)
      rw [List.drop_eq_getElem_cons hlt, List.pairwise_cons] at h8
      have := h8.1 y hy
      omega)
    refine ⟨l.take j ++ [x] ++ l.drop j, Ev.succ ?_, i0, i1, i2⟩
    have h3 : (0 + (l.take j).length < 17592186044416) = True := eq_true (by rw [List.length_take]; omega)
    have h4 : ((l.take j).length < 17592186044416) = True := eq_true (by rw [List.length_take]; omega)
    have h5 : ((l.take j ++ [x]).length + (l.drop j).length < 17592186044416) = True := eq_true (by simp only [List.length_append, List.length_take, List.length_drop, List.length_singleton]; omega)
    simp only [spec_l1Put.l0, h1, if_true, nat_nonneg, rdJ, hg, eq_false h6, eq_false h7, if_false, Option.bind_some, h2, Int.toNat_natCast, List.length_nil, h3, List.nil_append, h4, h5]
    exact Ev.now _
theorem putI_ev (l : List Int) (x : Int) (hl : l.length ≤ 4000000) (hu : l.Pairwise (· < ·)) : ∃ r : List Int, Ev (fun k => spec_l1Put.f k l x) r ∧ r.Pairwise (· < ·) ∧ (∀ y, y ∈ r ↔ y ∈ l ∨ y = x) ∧ r.length ≤ l.length + 1 := by
 unfold spec_l1Put.f
 exact putI_l0 l x hl hu l.length 0 (by omega) (by intro y hy; simp at hy)
theorem nodup_len : ∀ (a b : List Int), a.Nodup → (∀ x, x ∈ a → x ∈ b) → a.length ≤ b.length
 | [], b, _, _ => by simp
 | x :: a, b, hn, hs => by
  obtain ⟨hx, ha⟩ := List.nodup_cons.1 hn
  obtain ⟨p, q, rfl⟩ := List.append_of_mem (hs x (List.mem_cons_self ..))
  have := nodup_len a (p ++ q) ha (fun y hy => by
   have h1 := hs y (List.mem_cons_of_mem _ hy)
   simp only [List.mem_append, List.mem_cons] at h1 ⊢
   rcases h1 with h1 | rfl | h1
   ·exact Or.inl h1
   ·exact absurd hy hx
   ·exact Or.inr h1)
  simp only [List.length_append, List.length_cons] at this ⊢
  omega
theorem same_len {a b : List Int} (ha : a.Nodup) (hb : b.Nodup) (h : ∀ x, x ∈ a ↔ x ∈ b) : a.length = b.length :=
 Nat.le_antisymm (nodup_len a b ha (fun x => (h x).1)) (nodup_len b a hb (fun x => (h x).2))
theorem all_mem (n : Nat) : ∀ x : Int, x ∈ (List.range n).map Int.ofNat ↔ 0 ≤ x ∧ x < n := by
 intro x
 rw [List.mem_map]
 constructor
 ·rintro ⟨i, hi, rfl⟩
  have := List.mem_range.1 hi
  exact ⟨Int.natCast_nonneg i, by show (i : Int) < n; omega⟩
 ·rintro ⟨h0, h1⟩
  exact ⟨x.toNat, List.mem_range.2 (by omega), by show (x.toNat : Int) = x; omega⟩
theorem range_le {n : Nat} {a : List Int} (ha : a.Nodup) (hr : ∀ x, x ∈ a → 0 ≤ x ∧ x < n) : a.length ≤ n := by
 have := nodup_len a ((List.range n).map Int.ofNat) ha (fun x hx => (all_mem n x).2 (hr x hx))
 simpa using this
theorem wordsB_facts {l : List S62} (h : wordsB l = true) : l.length ≤ 16 ∧ ∀ j, j < l.length → 0 ≤ (wat l j).f2 ∧ (wat l j).f2 ≤ 99999 := by
 unfold wordsB at h
 rw [Bool.and_eq_true, List.all_eq_true, decide_eq_true_eq] at h
 refine ⟨h.2, fun j hj => ?_⟩
 have := h.1 j (List.mem_range.2 hj)
 unfold goodAt at this
 rw [Bool.and_eq_true, Bool.and_eq_true, Bool.and_eq_true, Bool.and_eq_true] at this
 exact of_decide_eq_true this.2.2.2.1
theorem compactUpToI_facts (d : Array Int) (hs : ∀ i j, i < j → j < d.size → d[i]! ≤ d[j]!) : ∀ m, m ≤ d.size → (Lib.compactUpTo d m).Pairwise (· < ·) ∧ ∀ x, x ∈ Lib.compactUpTo d m ↔ ∃ i, i < m ∧ d[i]! = x := by
 intro m
 induction m with
 | zero => intro _; exact ⟨by simp [Lib.compactUpTo], fun x => by simp [Lib.compactUpTo]⟩
 | succ m ih =>
  intro hm
  obtain ⟨h1, h2⟩ := ih (by omega)
  rw [Lib.compactUpTo_succ]
  rcases Bool.eq_false_or_eq_true (Lib.keeps d m) with hk | hk
  ·rw [if_pos hk]
   have hlt : ∀ x, x ∈ Lib.compactUpTo d m → x < d[m]! := by
    intro x hx
    obtain ⟨i, hi, rfl⟩ := (h2 x).1 hx
    have hne : d[m]! ≠ d[m - 1]! := by
     have := of_decide_eq_true hk
     exact this.resolve_left (by omega)
    have h3 : d[m - 1]! < d[m]! := by have := hs (m - 1) m (by omega) (by omega); omega
    by_cases he : i = m - 1
    ·rw [he]; exact h3
    ·have h4 := hs i (m - 1) (by omega) (by omega)
     omega
   refine ⟨List.pairwise_append.2 ⟨h1, List.pairwise_singleton _ _, fun a ha b hb => ?_⟩, fun x => ?_⟩
   ·rw [List.mem_singleton.1 hb]; exact hlt a ha
   ·rw [List.mem_append, h2, List.mem_singleton]
    constructor
    ·rintro (⟨i, hi, e⟩ | e)
     ·exact ⟨i, by omega, e⟩
     ·exact ⟨m, by omega, e.symm⟩
    ·rintro ⟨i, hi, e⟩
     by_cases he : i = m
     ·exact .inr (by rw [← e, he])
     ·exact .inl ⟨i, by omega, e⟩
  ·rw [hk]
   simp only [Bool.false_eq_true, if_false, List.append_nil]
   refine ⟨h1, fun x => ?_⟩
   rw [h2]
   have hne := of_decide_eq_false hk
   have hm0 : m ≠ 0 := fun e => hne (.inl e)
   have he : d[m]! = d[m - 1]! := Classical.byContradiction fun e => hne (.inr e)
   constructor
   ·rintro ⟨i, hi, e⟩; exact ⟨i, by omega, e⟩
   ·rintro ⟨i, hi, e⟩
    by_cases h5 : i = m
    ·exact ⟨m - 1, by omega, by rw [← e, h5, he]⟩
    ·exact ⟨i, by omega, e⟩
theorem distinctI_facts (u : List Int) : (Lib.compact (u.mergeSort fun x y => decide (x ≤ y))).Pairwise (· < ·) ∧ ∀ x, x ∈ Lib.compact (u.mergeSort fun x y => decide (x ≤ y)) ↔ x ∈ u := by
 have hp : (u.mergeSort fun x y => decide (x ≤ y)).Perm u := List.mergeSort_perm _ _
 have hs : (u.mergeSort fun x y => decide (x ≤ y)).Pairwise (fun x y => decide (x ≤ y) = true) := List.pairwise_mergeSort (le := fun x y : Int => decide (x ≤ y)) (by intro a b c; simp; omega) (by intro a b; simp; omega) u
 generalize (u.mergeSort fun x y => decide (x ≤ y)) = z at *
 have hg := List.pairwise_iff_getElem.1 hs
 have := compactUpToI_facts z.toArray (by
  intro i j hij hj
  have hj' : j < z.length := by simpa using hj
  have := hg i j (by omega) hj' hij
  simpa [getElem!_pos, hj', show i < z.length by omega] using this) z.length (by simp)
 refine ⟨this.1, fun x => ?_⟩
 rw [← hp.mem_iff]
 refine (this.2 x).trans ?_
 rw [List.mem_iff_getElem]
 constructor
 ·rintro ⟨i, hi, e⟩
  exact ⟨i, hi, by simpa [getElem!_pos, hi] using e⟩
 ·rintro ⟨i, hi, e⟩
  exact ⟨i, hi, by simpa [getElem!_pos, hi] using e⟩
theorem distinctI_up (u : List Int) (hl : u.length < 17592186044416) : ∃ r, impl_distinct_int.f u = some r ∧ r.Pairwise (· < ·) ∧ ∀ x, x ∈ r ↔ x ∈ u := by
 unfold impl_distinct_int.f slices_Clone_int.f
 simp only [Option.bind_some, List.length_nil, Nat.zero_add, List.nil_append, eq_true hl, if_true]
 exact ⟨_, rfl, distinctI_facts u⟩
def dQ (l : List S62) (a x : Int) : Int := impl_makeQuestion.dst (impl_makeQuestion.us l x) (impl_makeQuestion.us l a)
def ltQ (l : List S62) (a x y : Int) : Bool := decide (dQ l a x < dQ l a y ∨ dQ l a x = dQ l a y ∧ x < y)
theorem rest_facts {l : List S62} {a : Int} {o : List Int} (hok : impl_makeQuestion.ok l a) (hin : ∀ x, x ∈ o → 0 ≤ x ∧ x < (l.length : Int)) (hn : o.Nodup) :
  (impl_makeQuestion.rest l a o).Pairwise (fun x y => dQ l a x < dQ l a y ∨ dQ l a x = dQ l a y ∧ x < y) ∧ (∀ x, x ∈ impl_makeQuestion.rest l a o ↔ x ∈ o ∧ x ≠ a) ∧ (impl_makeQuestion.rest l a o).Nodup := by
 have e : Go.Proofs.YtnafjfdalapegaaGreatW.GSrtI.srtF (impl_makeQuestion.cf l a) o = o.mergeSort (fun x y => !(ltQ l a y x)) := by
  have h := List.map_mergeSort (r := fun x y => !(decide (impl_makeQuestion.cf l a y x < 0))) (s := fun x y => !(ltQ l a y x)) (f := id) (l := o) (fun x hx y hy => by
   show (!(decide (impl_makeQuestion.cf l a y x < 0))) = !(ltQ l a y x)
   unfold ltQ dQ
   rw [decide_eq_decide.2 (impl_makeQuestion.cf_neg hok (hin y hy) (hin x hx))])
  rw [List.map_id, List.map_id] at h
  exact h
 have hs := List.pairwise_mergeSort (le := fun x y => !(ltQ l a y x)) (by intro x y z; simp only [ltQ, Bool.not_eq_true', decide_eq_false_iff_not]; omega) (by intro x y; simp only [ltQ, Bool.or_eq_true, Bool.not_eq_true', decide_eq_false_iff_not]; omega) o
 have hp : (o.mergeSort (fun x y => !(ltQ l a y x))).Perm o := List.mergeSort_perm _ _
 have hn2 : (o.mergeSort (fun x y => !(ltQ l a y x))).Nodup := hp.nodup_iff.2 hn
 unfold impl_makeQuestion.rest
 rw [e]
 refine ⟨List.Pairwise.filter _ ((hs.and (show List.Pairwise (· ≠ ·) _ from hn2)).imp ?_), fun x => ?_, List.Pairwise.filter _ hn2⟩
 ·rintro x y ⟨h1, h2⟩
  simp only [ltQ, Bool.not_eq_true', decide_eq_false_iff_not] at h1
  omega
 ·rw [List.mem_filter, hp.mem_iff]
  simp
theorem abs_eq (u v : Int) (hu : 0 ≤ u ∧ u ≤ 99999) (hv : 0 ≤ v ∧ v ≤ 99999) : spec_l1Abs.f (wrap64 (u - v)) = some (impl_makeQuestion.dst u v) := by
 have e1 : wrap64 (u - v) = u - v := by unfold wrap64; omega
 have e2 : wrap64 (v - u) = v - u := by unfold wrap64; omega
 have e3 : wrap64 (-(u - v)) = v - u := by unfold wrap64; omega
 unfold spec_l1Abs.f spec_l1Most.f impl_makeQuestion.dst mx
 rw [e1, e2, e3]
 by_cases h : u - v > v - u
 ·rw [if_pos h, if_neg (by omega)]
  rfl
 ·rw [if_neg h]
  by_cases h2 : u - v < v - u
  ·rw [if_pos h2]
   rfl
  ·rw [if_neg h2]
   show some (v - u) = some (u - v)
   congr 1
   omega
theorem exMake_l1 (l : List S62) (T : List Int) (a n : Int) (x10 : List Int) (r : Int × List Int × Bool) (hok : impl_makeQuestion.ok l a) (hT : T.Pairwise (· < ·)) (hTr : ∀ t, t ∈ T → 0 ≤ t ∧ t < (l.length : Int)) (hTl : T.length ≤ 1048576) (hx : x10.length ≤ 1048576)
  (hc : ∀ B, B ∈ T → B ∉ x10 → (∀ t, t ∈ T → t ∉ x10 → dQ l a B < dQ l a t ∨ dQ l a B = dQ l a t ∧ B ≤ t) → Ev (fun k => (spec_l1Put.f k x10 B).bind fun t => spec_exMake.l0 k l T a n t) r) (hex : ∃ t, t ∈ T ∧ t ∉ x10) :
  ∀ d i (b : Int), i + d = T.length → ((b = -1 ∧ ∀ t, t ∈ T.take i → t ∈ x10) ∨ (b ∈ T.take i ∧ b ∉ x10 ∧ ∀ t, t ∈ T.take i → t ∉ x10 → dQ l a b < dQ l a t ∨ dQ l a b = dQ l a t ∧ b ≤ t)) → Ev (fun k => spec_exMake.l1 k l T a n x10 b T (T.length : Int) (i : Int)) r := by
 intro d
 induction d with
 | zero =>
  intro i b hi hb
  refine Ev.succ ?_
  rw [List.take_of_length_le (by omega)] at hb
  simp only [spec_exMake.l1, show ((i : Int) < (T.length : Int)) = False from eq_false (by omega), if_false]
  rcases hb with ⟨_, h⟩ | ⟨h1, h2, h3⟩
  ·obtain ⟨t, ht1, ht2⟩ := hex
   exact absurd (h t ht1) ht2
  ·exact hc b h1 h2 h3
 | succ d ih =>
  intro i b hi hb
  refine Ev.succ ?_
  have hlt : i < T.length := by omega
  have h1 : ((i : Int) < (T.length : Int)) = True := eq_true (by omega)
  have hg : T.getD i 0 = T[i] := by rw [List.getD_eq_getElem?_getD, List.getElem?_eq_getElem hlt]; rfl
  have e4 : wrap64 ((i : Int) + 1) = ((i + 1 : Nat) : Int) := wrap_succ (by omega)
  have ht : T.take (i + 1) = T.take i ++ [T[i]] := List.take_succ_eq_append_getElem hlt
  have hTi := hTr _ (List.getElem_mem hlt)
  have hlater : ∀ t, t ∈ T.take i → t < T[i] := by
   intro t ht'
   obtain ⟨j, hj, rfl⟩ := List.mem_iff_getElem.1 ht'
   rw [List.length_take] at hj
   rw [List.getElem_take]
   exact List.pairwise_iff_getElem.1 hT j i (by omega) hlt (by omega)
  simp only [spec_exMake.l1, h1, if_true, nat_nonneg, rdJ, hg, e4]
  refine Ev.bind (l1Has_ev x10 T[i] (by omega)) ?_
  by_cases h2 : T[i] ∈ x10
  ·simp only [decide_eq_true h2, if_true]
   refine ih (i + 1) b (by omega) ?_
   rw [ht]
   rcases hb with ⟨h3, h4⟩ | ⟨h3, h4, h5⟩
   ·refine Or.inl ⟨h3, fun t ht' => ?_⟩
    rcases List.mem_append.1 ht' with h | h
    ·exact h4 t h
    ·rw [List.mem_singleton] at h; subst h; exact h2
   ·refine Or.inr ⟨List.mem_append_left _ h3, h4, fun t ht' hn => ?_⟩
    rcases List.mem_append.1 ht' with h | h
    ·exact h5 t h hn
    ·rw [List.mem_singleton] at h; subst h; exact absurd h2 hn
  ·simp only [decide_eq_false h2, Bool.false_eq_true, if_false]
   by_cases h6 : b < 0
   ·simp only [eq_true h6, if_true]
    refine ih (i + 1) T[i] (by omega) (Or.inr ⟨by rw [ht]; exact List.mem_append_right _ (List.mem_singleton_self _), h2, fun t ht' hn => ?_⟩)
    rcases hb with ⟨_, h4⟩ | ⟨h3, _, _⟩
    ·rw [ht] at ht'
     rcases List.mem_append.1 ht' with h | h
     ·exact absurd (h4 t h) hn
     ·rw [List.mem_singleton] at h; subst h; exact Or.inr ⟨rfl, Int.le_refl _⟩
    ·have := (hTr b (List.mem_of_mem_take h3)).1
     omega
   ·rcases hb with ⟨h3, _⟩ | ⟨h3, h4, h5⟩
    ·omega
    ·have hbr := hTr b (List.mem_of_mem_take h3)
     have hub := hok.2.1 b hbr.1 hbr.2
     have hut := hok.2.1 T[i] hTi.1 hTi.2
     have hua := hok.2.1 a hok.2.2.1 hok.2.2.2
     have a1 : spec_l1Abs.f (wrap64 ((rd_T62 l T[i]).f2 - (rd_T62 l a).f2)) = some (dQ l a T[i]) := abs_eq _ _ hut hua
     have a2 : spec_l1Abs.f (wrap64 ((rd_T62 l b).f2 - (rd_T62 l a).f2)) = some (dQ l a b) := abs_eq _ _ hub hua
     simp only [eq_false h6, if_false, eq_true hTi.1, eq_true hTi.2, eq_true hok.2.2.1, eq_true hok.2.2.2, eq_true hbr.1, eq_true hbr.2, if_true, a1, a2, Option.bind_some]
     by_cases h7 : dQ l a T[i] < dQ l a b
     ·simp only [eq_true h7, if_true]
      refine ih (i + 1) T[i] (by omega) (Or.inr ⟨by rw [ht]; exact List.mem_append_right _ (List.mem_singleton_self _), h2, fun t ht' hn => ?_⟩)
      rw [ht] at ht'
      rcases List.mem_append.1 ht' with h | h
      ·have := h5 t h hn
       omega
      ·rw [List.mem_singleton] at h; subst h; exact Or.inr ⟨rfl, Int.le_refl _⟩
     ·simp only [eq_false h7, if_false]
      refine ih (i + 1) b (by omega) (Or.inr ⟨by rw [ht]; exact List.mem_append_left _ h3, h4, fun t ht' hn => ?_⟩)
      rw [ht] at ht'
      rcases List.mem_append.1 ht' with h | h
      ·exact h5 t h hn
      ·rw [List.mem_singleton] at h
       subst h
       have := hlater b h3
       omega
theorem exMake_l0 (l : List S62) (T : List Int) (a : Int) (hok : impl_makeQuestion.ok l a) (hT : T.Pairwise (· < ·)) (hTr : ∀ t, t ∈ T → 0 ≤ t ∧ t < (l.length : Int)) (hTl : T.length ≤ 1048576) (n : Nat) (hn : n ≤ 1048576) :
  ∀ f (P S x10 : List Int), (P ++ S).Pairwise (fun x y => dQ l a x < dQ l a y ∨ dQ l a x = dQ l a y ∧ x < y) → (∀ x, x ∈ P ++ S ↔ x ∈ T ∧ x ≠ a) → (P ++ S).Nodup → x10.Pairwise (· < ·) → (∀ x, x ∈ x10 ↔ x = a ∨ x ∈ P) → x10.length = P.length + 1 → P.length + 1 + f = n → f ≤ S.length →
   ∃ q, Ev (fun k => spec_exMake.l0 k l T a (n : Int) x10) (a, q, true) ∧ q.Pairwise (· < ·) ∧ (∀ x, x ∈ q ↔ x = a ∨ x ∈ P ++ S.take f) ∧ q.length = n := by
 intro f
 induction f with
 | zero =>
  intro P S x10 h1 h2 h3 h4 h5 h6 h7 h8
  refine ⟨x10, Ev.succ ?_, h4, fun x => by rw [h5, List.take_zero, List.append_nil], by omega⟩
  simp only [spec_exMake.l0, show ((x10.length : Int) < (n : Int)) = False from eq_false (by omega), if_false]
  exact Ev.now _
 | succ f ih =>
  intro P S x10 h1 h2 h3 h4 h5 h6 h7 h8
  cases S with
  | nil => simp at h8
  | cons s S =>
   have hsT := (h2 s).1 (by simp)
   have hsP : s ∉ P := fun h => (List.nodup_append.1 h3).2.2 s h s (List.mem_cons_self ..) rfl
   have hsx : s ∉ x10 := fun h => by rcases (h5 s).1 h with h | h; exact hsT.2 h; exact hsP h
   obtain ⟨y, hy1, hy2, hy3, hy4⟩ := putI_ev x10 s (by omega) h4
   have hyl : y.length = x10.length + 1 := by
    have := same_len (a := y) (b := s :: x10) (List.Pairwise.imp (S := fun a b : Int => a ≠ b) (fun {a b} (hlt : a < b) e => by omega) hy2) (List.nodup_cons.2 ⟨hsx, List.Pairwise.imp (S := fun a b : Int => a ≠ b) (fun {a b} (hlt : a < b) e => by omega) h4⟩) (fun x => by rw [hy3, List.mem_cons]; exact or_comm)
    rw [this, List.length_cons]
   have ea : (P ++ [s]) ++ S = P ++ s :: S := by simp
   obtain ⟨q, q1, q2, q3, q4⟩ := ih (P ++ [s]) S y (by rw [ea]; exact h1) (fun x => by rw [ea]; exact h2 x) (by rw [ea]; exact h3) hy2 (fun x => by rw [hy3, h5, List.mem_append, List.mem_singleton, or_assoc]) (by rw [List.length_append, List.length_singleton]; omega) (by rw [List.length_append, List.length_singleton]; omega) (by rw [List.length_cons] at h8; omega)
   refine ⟨q, Ev.succ ?_, q2, fun x => by rw [q3, List.take_succ_cons]; simp, q4⟩
   simp only [spec_exMake.l0, show ((x10.length : Int) < (n : Int)) = True from eq_true (by omega), if_true]
   refine exMake_l1 l T a (n : Int) x10 _ hok hT hTr hTl (by omega) (fun B hB hBx hmin => ?_) ⟨s, hsT.1, hsx⟩ T.length 0 (-1) (by omega) (Or.inl ⟨rfl, by simp⟩)
   have hBs : B = s := by
    have hBa : B ≠ a := fun e => hBx ((h5 B).2 (Or.inl e))
    have hBP : B ∉ P := fun h => hBx ((h5 B).2 (Or.inr h))
    have hm := (h2 B).2 ⟨hB, hBa⟩
    rcases List.mem_append.1 hm with h | h
    ·exact absurd h hBP
    ·rcases List.mem_cons.1 h with h | h
     ·exact h
     ·have h9 := (List.pairwise_cons.1 (List.pairwise_append.1 h1).2.1).1 B h
      have h10 := hmin s hsT.1 hsx
      omega
   subst hBs
   exact Ev.bind hy1 q1
theorem exTaughtU_l1 (ls : List (List Int)) (n : Nat) (y : List Int) (P : List Int → Prop) (hy : y.length ≤ 1048576) : ∀ d i (acc : List Int), i + d = y.length → acc.Pairwise (· < ·) → acc.length + d ≤ 3000000 → (∀ acc2 : List Int, acc2.Pairwise (· < ·) → acc2.length ≤ acc.length + d → (∀ z, z ∈ acc2 ↔ z ∈ acc ∨ z ∈ y.drop i) → ∃ r, Ev (fun k => spec_exTaught.l0 k acc2 ls (ls.length : Int) (wrap64 ((n : Int) + 1))) r ∧ P r) → ∃ r, Ev (fun k => spec_exTaught.l1 k acc ls (ls.length : Int) (n : Int) y (y.length : Int) (i : Int)) r ∧ P r := by
 intro d
 induction d with
 | zero =>
  intro i acc hi hu ha hc
  obtain ⟨r, hr, hp⟩ := hc acc hu (by omega) (fun z => by rw [List.drop_of_length_le (by omega)]; simp)
  refine ⟨r, Ev.succ ?_, hp⟩
  have h1 : ((i : Int) < (y.length : Int)) = False := eq_false (by omega)
  simp only [spec_exTaught.l1, h1, if_false]
  exact hr
 | succ d ih =>
  intro i acc hi hu ha hc
  have hlt : i < y.length := by omega
  have h1 : ((i : Int) < (y.length : Int)) = True := eq_true (by omega)
  have hg : y.getD i 0 = y[i] := by rw [List.getD_eq_getElem?_getD, List.getElem?_eq_getElem hlt]; rfl
  obtain ⟨a, ha1, hau, ha2, ha3⟩ := putI_ev acc y[i] (by omega) hu
  obtain ⟨r, hr, hp⟩ := ih (i + 1) a (by omega) hau (by omega) (fun acc2 h0 h2 h3 => hc acc2 h0 (by omega) (fun z => by
   rw [h3, ha2, List.drop_eq_getElem_cons hlt, List.mem_cons, or_assoc]))
  refine ⟨r, Ev.succ ?_, hp⟩
  simp only [spec_exTaught.l1, h1, if_true, nat_nonneg, rdJ, hg, wrap_succ (show i < 4611686018427387904 by omega)]
  exact Ev.bind ha1 hr
theorem exTaughtU_l0 (ls : List (List Int)) (hs : ls.flatten.length ≤ 1048576) (hl : ls.length ≤ 1048576) : ∀ d n (acc : List Int), n + d = ls.length → acc.Pairwise (· < ·) → acc.length + (ls.drop n).flatten.length ≤ 2000000 → ∃ r, Ev (fun k => spec_exTaught.l0 k acc ls (ls.length : Int) (n : Int)) r ∧ r.Pairwise (· < ·) ∧ ∀ z, z ∈ r ↔ z ∈ acc ∨ z ∈ (ls.drop n).flatten := by
 intro d
 induction d with
 | zero =>
  intro n acc hn hu ha
  refine ⟨acc, Ev.succ ?_, hu, fun z => by rw [List.drop_of_length_le (by omega)]; simp⟩
  have h1 : ((n : Int) < (ls.length : Int)) = False := eq_false (by omega)
  simp only [spec_exTaught.l0, h1, if_false]
  exact Ev.now _
 | succ d ih =>
  intro n acc hn hu ha
  have hlt : n < ls.length := by omega
  have h1 : ((n : Int) < (ls.length : Int)) = True := eq_true (by omega)
  have hle := flatLe (List.getElem_mem hlt)
  have hd := dropFlat ls n hlt
  have hdl : (ls.drop n).flatten.length = ls[n].length + (ls.drop (n + 1)).flatten.length := by rw [hd, List.length_append]
  obtain ⟨r, hr, hp⟩ := exTaughtU_l1 ls n ls[n] (fun r => r.Pairwise (· < ·) ∧ ∀ z, z ∈ r ↔ z ∈ acc ∨ z ∈ (ls.drop n).flatten) (by omega) ls[n].length 0 acc (by omega) hu (by omega) (fun acc2 h0 h2 h3 => by
   rw [wrap_succ (show n < 4611686018427387904 by omega)]
   obtain ⟨r, hr, hk, hq⟩ := ih (n + 1) acc2 (by omega) h0 (by omega)
   refine ⟨r, hr, hk, fun z => ?_⟩
   rw [hq, h3, hd, List.drop_zero, List.mem_append, or_assoc])
  refine ⟨r, Ev.succ ?_, hp⟩
  simp only [spec_exTaught.l0, h1, if_true, nat_nonneg, rdLx, getL ls n hlt]
  exact hr
theorem exTaughtU_ev (ls : List (List Int)) (n : Int) (hs : ls.flatten.length ≤ 1048576) (hl : ls.length ≤ 1048576) (h0 : 0 ≤ n) (h1 : n ≤ ls.length) : ∃ r : List Int, Ev (fun k => spec_exTaught.f k ls n) r ∧ r.Pairwise (· < ·) ∧ ∀ z, z ∈ r ↔ z ∈ (ls.take n.toNat).flatten := by
 have hb := takeFlat ls n.toNat
 obtain ⟨r, hr, hk, hq⟩ := exTaughtU_l0 (ls.take n.toNat) (by omega) (by rw [List.length_take]; omega) (ls.take n.toNat).length 0 [] (by omega) List.Pairwise.nil (by rw [List.drop_zero, List.length_nil]; omega)
 rw [List.drop_zero] at hq
 refine ⟨r, ?_, hk, fun z => by rw [hq]; simp⟩
 unfold spec_exTaught.f
 simp only [eq_true h0, eq_true h1, if_true, Option.bind_some]
 exact hr
/-! makeQuestion -/
theorem upN {l : List Int} (h : l.Pairwise (· < ·)) : l.Nodup := List.Pairwise.imp (S := fun a b : Int => a ≠ b) (fun {a b} (hlt : a < b) e => by omega) h
theorem make_ev (l : List S62) (ls : List (List Int)) (a n : Int) (hw : wordsB l = true) (hr : ∀ x, x ∈ ls.flatten → 0 ≤ x ∧ x < l.length) (hnd : ls.flatten.Nodup) (hll : ls.length ≤ 1048576) (ha : 0 ≤ a ∧ a < l.length) (hn : 2 ≤ n ∧ n ≤ 4) (T : List Int) (hT : T.Pairwise (· < ·)) (hTm : ∀ z, z ∈ T ↔ z ∈ ls.flatten) :
  ∃ r : Int × List Int × Bool, Ev (fun k => impl_makeQuestion.f k l ls a n) r ∧ Ev (fun k => spec_exMake.f k l T a n) r ∧ r.2.1.length ≤ 4 := by
 have h16 := wordsB_facts hw
 have hol := range_le hnd hr
 have hTr : ∀ x, x ∈ T → 0 ≤ x ∧ x < (l.length : Int) := fun x hx => hr x ((hTm x).1 hx)
 have hTo : T.length = ls.flatten.length := same_len (upN hT) hnd hTm
 have hkB : impl_makeQuestion.okB l a ls.flatten = true := by
  unfold impl_makeQuestion.okB
  simp only [Bool.and_eq_true, List.all_eq_true, decide_eq_true_eq]
  refine ⟨by omega, fun j hj => ?_, ha, fun x hx => hr x hx, by omega⟩
  have := h16.2 j (List.mem_range.1 hj)
  unfold impl_makeQuestion.us
  rw [rdw]
  exact this
 obtain ⟨hok, hin, _⟩ := impl_makeQuestion.ok_of hkB
 obtain ⟨r1, r2, r3⟩ := rest_facts hok hin hnd
 have ew : wrap64 (n - 1) = n - 1 := wrap_id (by omega) (by omega)
 have bad : Ev (fun k => spec_exMake.j0 k l T a n true) (0, ([] : List Int), false) := by
  refine Ev.succ ?_
  simp only [spec_exMake.j0, if_true]
  exact Ev.now _
 have hI := concat_ev ls (by omega) hll
 have hB := isTaught_ev ls a (by omega)
 have hS := l1Has_ev T a (by omega)
 by_cases h1 : a ∈ ls.flatten
 ·rw [decide_eq_true h1] at hB
  rw [decide_eq_true ((hTm a).2 h1)] at hS
  have hRl : (impl_makeQuestion.rest l a ls.flatten).length + 1 = ls.flatten.length := by
   have := same_len (a := a :: impl_makeQuestion.rest l a ls.flatten) (b := ls.flatten) (List.nodup_cons.2 ⟨fun h => ((r2 a).1 h).2 rfl, r3⟩) hnd (fun x => by
    rw [List.mem_cons, r2]
    constructor
    ·rintro (rfl | h)
     ·exact h1
     ·exact h.1
    ·intro h
     by_cases e : x = a
     ·exact Or.inl e
     ·exact Or.inr ⟨h, e⟩)
   rwa [List.length_cons] at this
  by_cases h2 : ((impl_makeQuestion.rest l a ls.flatten).length : Int) < n - 1
  ·refine ⟨(0, [], false), ?_, ?_, by simp⟩
   ·unfold impl_makeQuestion.f
    refine Ev.bind hI ?_
    simp only [hkB, if_true]
    refine Ev.bind hB ?_
    simp only [if_true, ew, eq_true h2]
    exact Ev.now _
   ·unfold spec_exMake.f
    refine Ev.bind hS ?_
    simp only [if_true, show decide ((T.length : Int) < n) = true from decide_eq_true (by omega)]
    exact bad
  ·obtain ⟨q, q1, q2, q3, q4⟩ := exMake_l0 l T a hok hT hTr (by omega) n.toNat (by omega) (n - 1).toNat [] (impl_makeQuestion.rest l a ls.flatten) [a] (by simpa using r1) (fun x => by rw [List.nil_append, r2, hTm]) (by simpa using r3) (List.pairwise_singleton _ _) (fun x => by simp) (by simp) (by simp; omega) (by omega)
   rw [show ((n.toNat : Nat) : Int) = n by omega] at q1
   have htl : ((impl_makeQuestion.rest l a ls.flatten).take (n - 1).toNat).length ≤ 1048576 := by rw [List.length_take]; omega
   obtain ⟨d, d1, d2, d3⟩ := distinctI_up ((impl_makeQuestion.rest l a ls.flatten).take (n - 1).toNat ++ [a]) (by rw [List.length_append, List.length_singleton]; omega)
   have e : d = q := upI_unique d2 q2 (fun x => by
    rw [d3, q3, List.mem_append, List.mem_singleton, List.nil_append]
    exact or_comm)
   subst e
   have hcl : slices_Clone_int.f ((impl_makeQuestion.rest l a ls.flatten).take (n - 1).toNat) = some ((impl_makeQuestion.rest l a ls.flatten).take (n - 1).toNat) := by
    unfold slices_Clone_int.f
    simp only [Option.bind_some, List.length_nil, List.nil_append, show (0 + ((impl_makeQuestion.rest l a ls.flatten).take (n - 1).toNat).length < 17592186044416) = True from eq_true (by omega), if_true]
   refine ⟨(a, d, true), ?_, ?_, by show d.length ≤ 4; omega⟩
   ·unfold impl_makeQuestion.f
    refine Ev.bind hI ?_
    simp only [hkB, if_true]
    refine Ev.bind hB ?_
    simp only [if_true, ew, eq_false h2, if_false, show (0 ≤ n - 1) = True from eq_true (by omega), hcl, Option.bind_some, show (((impl_makeQuestion.rest l a ls.flatten).take (n - 1).toNat).length < 17592186044416) = True from eq_true (by omega), d1]
    exact Ev.now _
   ·unfold spec_exMake.f
    refine Ev.bind hS ?_
    simp only [if_true, show decide ((T.length : Int) < n) = false from decide_eq_false (by omega)]
    refine Ev.succ ?_
    simp only [spec_exMake.j0, Bool.false_eq_true, if_false]
    exact q1
 ·rw [decide_eq_false h1] at hB
  rw [decide_eq_false (fun h => h1 ((hTm a).1 h))] at hS
  refine ⟨(0, [], false), ?_, ?_, by simp⟩
  ·unfold impl_makeQuestion.f
   refine Ev.bind hI ?_
   simp only [hkB, if_true]
   refine Ev.bind hB ?_
   simp only [Bool.false_eq_true, if_false]
   exact Ev.now _
  ·unfold spec_exMake.f
   refine Ev.bind hS ?_
   simp only [Bool.false_eq_true, if_false]
   exact bad
theorem strOfNums_one (x : Int) : (strOfNums [x]).size = 1 := by simp [strOfNums, ByteArray.size]
theorem markText_l0 : ∀ (n : Nat) (a : Int) (s : ByteArray), 0 ≤ a → a.toNat ≤ n → a ≤ 1000000000 → s.size + n ≤ 2000000000 → ∃ r, Ev (fun k => laws_markText.l0 k a s) r := by
 intro n
 induction n with
 | zero =>
  intro a s h0 h1 h2 h3
  refine ⟨(⟨#[109]⟩ : ByteArray) ++ s, Ev.succ ?_⟩
  have h4 : (a > 0) = False := eq_false (by omega)
  have h5 : (1 + s.size ≤ 9223372036854775807) = True := eq_true (by omega)
  simp only [laws_markText.l0, h4, h5, if_true, if_false]
  exact Ev.now _
 | succ n ih =>
  intro a s h0 h1 h2 h3
  by_cases h : a > 0
  ·have hd := Int.tdiv_eq_ediv_of_nonneg (b := 10) h0
   have h7 : Int.tdiv a 10 < a ∧ 0 ≤ Int.tdiv a 10 := by rw [hd]; omega
   have hx : (strOfNums [(wrap64 (48 + Int.tmod a 10)) % 256]).size = 1 := strOfNums_one _
   have h5 : ((strOfNums [(wrap64 (48 + Int.tmod a 10)) % 256]).size + s.size ≤ 9223372036854775807) = True := eq_true (by omega)
   obtain ⟨r, hr⟩ := ih (Int.tdiv a 10) (strOfNums [(wrap64 (48 + Int.tmod a 10)) % 256] ++ s) h7.2 (by omega) (by omega) (by rw [ByteArray.size_append]; omega)
   refine ⟨r, Ev.succ ?_⟩
   simp only [laws_markText.l0, eq_true h, h5, if_true, Option.bind_some, wrap_id (x := Int.tdiv a 10) (by omega) (by omega)]
   exact hr
  ·refine ⟨(⟨#[109]⟩ : ByteArray) ++ s, Ev.succ ?_⟩
   have h5 : (1 + s.size ≤ 9223372036854775807) = True := eq_true (by omega)
   simp only [laws_markText.l0, eq_false h, h5, if_true, if_false]
   exact Ev.now _
theorem markText_some (a : Int) (ha : a ≤ 1000000000) : ∃ r, Ev (fun k => laws_markText.f k a) r := by
 unfold laws_markText.f
 by_cases h : a ≤ 0
 ·simp only [eq_true h, if_true]
  exact ⟨_, Ev.now _⟩
 ·simp only [eq_false h, if_false]
  exact markText_l0 a.toNat a _ (by omega) (Nat.le_refl _) ha (by simp [ByteArray.size]; omega)
/-- The mark's text. -/
noncomputable def mtext (a : Int) : ByteArray := @dite _ (∃ r, Ev (fun k => laws_markText.f k a) r) (Classical.propDecidable _) (fun h => Classical.choose h) (fun _ => ByteArray.empty)
theorem markText_ev (a : Int) (ha : a ≤ 1000000000) : Ev (fun k => laws_markText.f k a) (mtext a) := by
 unfold mtext
 rw [dif_pos (markText_some a ha)]
 exact Classical.choose_spec (markText_some a ha)
def markInts (a : Int) (n : Nat) : List Int := (List.range n).map fun i : Nat => a + (i : Int)
theorem markInts_length (a : Int) (n : Nat) : (markInts a n).length = n := by simp [markInts]
theorem markInts_succ (a : Int) (n : Nat) : markInts a (n + 1) = markInts a n ++ [a + n] := by simp [markInts, List.range_succ]
theorem markInts_get (a : Int) (n j : Nat) (h : j < n) : (markInts a n).getD j 0 = a + j := by
 simp [markInts, List.getD_eq_getElem?_getD, h]
theorem markIntS_ev (l : List Int) (a : Int) (h0 : 0 ≤ a) (ha : a + l.length < 4611686018427387904) : Ev (fun k => laws_markIntS.f k l a) (a + l.length, markInts a l.length) := by
 unfold laws_markIntS.f
 have key := Ev.upto (L := fun k j => laws_markIntS.l0 k (markInts a j ++ l.drop j) (a + j) (j : Int)) (r := (a + l.length, markInts a l.length)) (n := l.length)
  (by
   refine Ev.succ ?_
   have hlen : (markInts a l.length ++ l.drop l.length).length = l.length := by simp [markInts_length]
   simp only [laws_markIntS.l0, hlen, Int.lt_irrefl, if_false]
   simp only [List.drop_length, List.append_nil]
   exact Ev.now _)
  (by
   intro j hj h
   refine Ev.succ ?_
   have hlen : (markInts a j ++ l.drop j).length = l.length := by simp [markInts_length]; omega
   have h1 : ((j : Int) < (l.length : Int)) = True := eq_true (by omega)
   have e : (markInts a j ++ l.drop j).set j (a + j) = markInts a (j + 1) ++ l.drop (j + 1) := by
    rw [List.set_append_right _ _ (by simp [markInts_length]), markInts_length, Nat.sub_self, List.drop_eq_getElem_cons hj, List.set_cons_zero, markInts_succ, List.append_assoc]
    rfl
   simp only [laws_markIntS.l0, hlen, h1, if_true, nat_nonneg, Int.toNat_natCast, e, wrap_succ (show j < 4611686018427387904 by omega), wrap_id (x := a + (j : Int) + 1) (by omega) (by omega)]
   rw [show a + (j : Int) + 1 = a + ((j + 1 : Nat) : Int) by omega]
   exact h)
  0 (Nat.zero_le _)
 simpa [markInts] using key
theorem heldIntS_ev (n : Nat) (a : Int) (h0 : 0 ≤ a) (ha : a + n < 4611686018427387904) : Ev (fun k => laws_heldIntS.f k (markInts a n) a) (a + n) := by
 unfold laws_heldIntS.f
 have key := Ev.upto (L := fun k j => laws_heldIntS.l0 k (markInts a n) (a + j) (j : Int)) (r := a + (n : Int)) (n := n)
  (by
   refine Ev.succ ?_
   simp only [laws_heldIntS.l0, markInts_length, Int.lt_irrefl, if_false]
   exact Ev.now _)
  (by
   intro j hj h
   refine Ev.succ ?_
   have h1 : ((j : Int) < (n : Int)) = True := eq_true (by omega)
   simp only [laws_heldIntS.l0, markInts_length, h1, if_true, nat_nonneg, rdI, markInts_get a n j hj, wrap_succ (show j < 4611686018427387904 by omega), wrap_id (x := a + (j : Int) + 1) (by omega) (by omega)]
   rw [show a + (j : Int) + 1 = a + ((j + 1 : Nat) : Int) by omega]
   exact h)
  0 (Nat.zero_le _)
 simpa using key
def wconv (x : S56) : S62 := ⟨x.f0, x.f1, x.f2⟩
theorem toWordS_ev (l : List S56) (hl : l.length * 48 ≤ 140737488351232) (hz : ∀ y, y ∈ l → B56 y) : Ev (fun k => laws_toWordS.f k l) (l.map wconv) := by
 unfold laws_toWordS.f
 simp only [nat_nonneg, if_true, Int.toNat_natCast, show (l.length ≤ 5864062014805) = True from eq_true (by omega)]
 refine Ev.copy wconv l z56 z62 (fun k s j => laws_toWordS.l0 k l s j) ?_ ?_
 ·intro j s r hj hs h
  refine Ev.succ ?_
  have h1 : ((j : Int) < (l.length : Int)) = True := eq_true (by omega)
  have hy := hz (l.getD j z56) (by rw [List.getD_eq_getElem?_getD, List.getElem?_eq_getElem hj]; exact List.getElem_mem hj)
  simp only [laws_toWordS.l0, h1, if_true, nat_nonneg, hs, Int.toNat_natCast, wrap_succ (show j < 4611686018427387904 by omega), rdwL]
  unfold laws_toWord.f
  refine Ev.bind (Ev.bind (toIntS_ev _ hy.2.1.1) (Ev.now _)) ?_
  exact h
 ·intro s hs
  refine Ev.succ ?_
  simp only [laws_toWordS.l0, Int.lt_irrefl, if_false]
  exact Ev.now _
theorem eqWordS_ev (l : List S62) (hl : l.length < 4611686018427387904) (hz : WSz l) : Ev (fun k => laws_eqWordS.f k l l) true := by
 unfold laws_eqWordS.f
 simp only [if_true]
 exact Ev.upto (L := fun k j => laws_eqWordS.l0 k l l (j : Int)) (r := true) (n := l.length)
  (by
   refine Ev.succ ?_
   simp only [laws_eqWordS.l0, Int.lt_irrefl, if_false]
   exact Ev.now _)
  (by
   intro j hj h
   refine Ev.succ ?_
   have h1 : ((j : Int) < (l.length : Int)) = True := eq_true (by omega)
   have := wsz_at hz hj
   simp only [laws_eqWordS.l0, h1, if_true, nat_nonneg, wrap_succ (show j < 4611686018427387904 by omega), rdw]
   unfold laws_eqWord.f
   simp only [if_true]
   refine Ev.bind (Ev.bind (eqIntS_ev _ (by omega)) (by simp only [if_true]; exact Ev.now _)) ?_
   simp only [if_true]
   exact h)
  0 (Nat.zero_le _)
/-- How many numbers and bytes there are in all. -/
def wsum : List S56 → Nat
 | [] => 0
 | x :: l => x.f0.size + x.f1.length + wsum l
theorem wsum_mem : ∀ {l : List S56} {x}, x ∈ l → x.f0.size + x.f1.length ≤ wsum l
 | y :: l, x, h => by
  rcases List.mem_cons.1 h with rfl | h
  ·simp [wsum]
  ·have := wsum_mem h
   simp only [wsum]
   omega
theorem szWord_eq (x : S56) (a : Int) (h0 : x.f0.size ≤ 140737488351232) (h1 : x.f1.length * 8 ≤ 140737488351232) (ha0 : 0 ≤ a) (ha1 : a ≤ 1048576) : laws_szWord.f x.f0 x.f1 x.f2 a = some (if a - (x.f0.size : Int) - (x.f1.length : Int) < 0 then -1 else a - (x.f0.size : Int) - (x.f1.length : Int)) := by
 unfold laws_szWord.f laws_szIntS.f
 rw [wrap_id (x := a - (x.f0.size : Int)) (by omega) (by omega), wrap_id (x := a - (x.f0.size : Int) - (x.f1.length : Int)) (by omega) (by omega)]
 by_cases h2 : a - (x.f0.size : Int) < 0
 ·simp only [eq_true h2, if_true, show (a - (x.f0.size : Int) - (x.f1.length : Int) < 0) = True from eq_true (by omega)]
 ·by_cases h3 : a - (x.f0.size : Int) - (x.f1.length : Int) < 0
  ·simp only [eq_false h2, eq_true h3, if_true, if_false, Option.bind_some, show ((-1 : Int) < 0) = True from eq_true (by decide)]
  ·simp only [eq_false h2, eq_false h3, if_false, Option.bind_some]
theorem szWordS_ev (l : List S56) (hl : l.length * 48 ≤ 140737488351232) (hz : ∀ y, y ∈ l → B56 y) : ∃ r, (0 ≤ r → l.length + wsum l ≤ 1048576 ∧ r ≤ 1048576) ∧ Ev (fun k => laws_szWordS.f k l 1048576) r := by
 unfold laws_szWordS.f
 rw [wrap_id (x := 1048576 - (l.length : Int)) (by omega) (by omega)]
 by_cases h0 : (1048576 : Int) - l.length < 0
 ·refine ⟨-1, fun h => absurd h (by decide), ?_⟩
  simp only [eq_true h0, if_true]
  exact Ev.now _
 ·have key : ∀ n j, j + n = l.length → ∀ a : Int, 0 ≤ a → a ≤ 1048576 → ∃ r, (0 ≤ r → (wsum (l.drop j) : Int) ≤ a ∧ r ≤ 1048576) ∧ Ev (fun k => laws_szWordS.l0 k l a (j : Int)) r := by
   intro n
   induction n with
   | zero =>
    intro j hj a ha0 ha1
    have hj' : j = l.length := by omega
    refine ⟨a, fun _ => ⟨by rw [hj', List.drop_length]; simpa [wsum] using ha0, ha1⟩, Ev.succ ?_⟩
    have h1 : ((j : Int) < (l.length : Int)) = False := eq_false (by omega)
    simp only [laws_szWordS.l0, h1, if_false]
    exact Ev.now _
   | succ n ih =>
    intro j hj a ha0 ha1
    have hlt : j < l.length := by omega
    have h1 : ((j : Int) < (l.length : Int)) = True := eq_true (by omega)
    have hg : l.getD j z56 = l[j] := by rw [List.getD_eq_getElem?_getD, List.getElem?_eq_getElem hlt]; rfl
    have hy := hz l[j] (List.getElem_mem hlt)
    have hd : wsum (l.drop j) = l[j].f0.size + l[j].f1.length + wsum (l.drop (j + 1)) := by rw [List.drop_eq_getElem_cons hlt]; rfl
    by_cases hc : a - (l[j].f0.size : Int) - (l[j].f1.length : Int) < 0
    ·refine ⟨-1, fun h => absurd h (by decide), Ev.succ ?_⟩
     simp only [laws_szWordS.l0, h1, if_true, nat_nonneg, rdwL, hg, szWord_eq l[j] a hy.1 hy.2.1.1 ha0 ha1, eq_true hc, Option.bind_some, show ((-1 : Int) < 0) = True from eq_true (by decide)]
     exact Ev.now _
    ·obtain ⟨r, h3, h4⟩ := ih (j + 1) (by omega) (a - (l[j].f0.size : Int) - (l[j].f1.length : Int)) (by omega) (by omega)
     refine ⟨r, fun h => ⟨by have := (h3 h).1; rw [hd]; omega, (h3 h).2⟩, Ev.succ ?_⟩
     simp only [laws_szWordS.l0, h1, if_true, nat_nonneg, rdwL, hg, szWord_eq l[j] a hy.1 hy.2.1.1 ha0 ha1, eq_false hc, if_false, Option.bind_some, wrap_succ (show j < 4611686018427387904 by omega)]
     exact h4
  obtain ⟨r, h3, h4⟩ := key l.length 0 (by omega) (1048576 - (l.length : Int)) (by omega) (by omega)
  refine ⟨r, fun h => ⟨by have := (h3 h).1; simp only [List.drop_zero] at this; omega, (h3 h).2⟩, ?_⟩
  simp only [eq_false h0, if_false]
  exact h4
theorem wsz_map (l : List S56) (h : wsum l ≤ 1048576) : WSz (l.map wconv) := by
 intro q hq
 obtain ⟨x, hx, rfl⟩ := List.mem_map.1 hq
 have := wsum_mem hx
 exact ⟨by show x.f1.length ≤ 1048576; omega, by show x.f0.size ≤ 1048576; omega⟩
/-! lists of lists of numbers -/
theorem rdLL (l : List (List Int)) (j : Nat) : rd_L2 l (j : Int) = l.getD j [] := by simp [rd_L2]
theorem toIntSS_ev (l : List (List Int)) (hl : l.length * 24 ≤ 140737488351232) (hz : ∀ y, y ∈ l → y.length * 8 ≤ 140737488351232) : Ev (fun k => laws_toIntSS.f k l) l := by
 unfold laws_toIntSS.f
 simp only [nat_nonneg, if_true, Int.toNat_natCast, show (l.length ≤ 11728124029610) = True from eq_true (by omega)]
 have key := Ev.copy (fun x : List Int => x) l [] [] (fun k s j => laws_toIntSS.l0 k l s j)
  (by
   intro j s r hj hs h
   refine Ev.succ ?_
   have h1 : ((j : Int) < (l.length : Int)) = True := eq_true (by omega)
   have hy := hz (l.getD j []) (by rw [List.getD_eq_getElem?_getD, List.getElem?_eq_getElem hj]; exact List.getElem_mem hj)
   simp only [laws_toIntSS.l0, h1, if_true, nat_nonneg, hs, Int.toNat_natCast, wrap_succ (show j < 4611686018427387904 by omega), rdLL]
   exact Ev.bind (toIntS_ev _ hy) h)
  (by
   intro s hs
   refine Ev.succ ?_
   simp only [laws_toIntSS.l0, Int.lt_irrefl, if_false]
   exact Ev.now _)
 simpa using key
theorem eqIntSS_ev (l : List (List Int)) (hl : l.length < 4611686018427387904) (hz : ∀ y, y ∈ l → y.length ≤ 1048576) : Ev (fun k => laws_eqIntSS.f k l l) true := by
 unfold laws_eqIntSS.f
 simp only [if_true]
 exact Ev.upto (L := fun k j => laws_eqIntSS.l0 k l l (j : Int)) (r := true) (n := l.length)
  (by
   refine Ev.succ ?_
   simp only [laws_eqIntSS.l0, Int.lt_irrefl, if_false]
   exact Ev.now _)
  (by
   intro j hj h
   refine Ev.succ ?_
   have h1 : ((j : Int) < (l.length : Int)) = True := eq_true (by omega)
   have hy := hz (l.getD j []) (by rw [List.getD_eq_getElem?_getD, List.getElem?_eq_getElem hj]; exact List.getElem_mem hj)
   simp only [laws_eqIntSS.l0, h1, if_true, nat_nonneg, wrap_succ (show j < 4611686018427387904 by omega), rdLL]
   refine Ev.bind (eqIntS_ev _ (by omega)) ?_
   simp only [if_true]
   exact h)
  0 (Nat.zero_le _)
theorem szIntSS_ev (l : List (List Int)) (A : Int) (hA0 : 0 ≤ A) (hA1 : A ≤ 1048576) (hl : l.length * 24 ≤ 140737488351232) (hz : ∀ y, y ∈ l → y.length * 8 ≤ 140737488351232) : ∃ r, (0 ≤ r → l.length + l.flatten.length ≤ 1048576 ∧ r ≤ 1048576) ∧ Ev (fun k => laws_szIntSS.f k l A) r := by
 unfold laws_szIntSS.f
 rw [wrap_id (x := A - (l.length : Int)) (by omega) (by omega)]
 by_cases h0 : A - (l.length : Int) < 0
 ·refine ⟨-1, fun h => absurd h (by decide), ?_⟩
  simp only [eq_true h0, if_true]
  exact Ev.now _
 ·have key : ∀ n j, j + n = l.length → ∀ a : Int, 0 ≤ a → a ≤ 1048576 → ∃ r, (0 ≤ r → ((l.drop j).flatten.length : Int) ≤ a ∧ r ≤ 1048576) ∧ Ev (fun k => laws_szIntSS.l0 k l a (j : Int)) r := by
   intro n
   induction n with
   | zero =>
    intro j hj a ha0 ha1
    have hj' : j = l.length := by omega
    refine ⟨a, fun _ => ⟨by rw [hj', List.drop_length]; simpa using ha0, ha1⟩, Ev.succ ?_⟩
    have h1 : ((j : Int) < (l.length : Int)) = False := eq_false (by omega)
    simp only [laws_szIntSS.l0, h1, if_false]
    exact Ev.now _
   | succ n ih =>
    intro j hj a ha0 ha1
    have hlt : j < l.length := by omega
    have h1 : ((j : Int) < (l.length : Int)) = True := eq_true (by omega)
    have hg : l.getD j [] = l[j] := by rw [List.getD_eq_getElem?_getD, List.getElem?_eq_getElem hlt]; rfl
    have hy := hz l[j] (List.getElem_mem hlt)
    have hd : (l.drop j).flatten.length = l[j].length + (l.drop (j + 1)).flatten.length := by rw [List.drop_eq_getElem_cons hlt, List.flatten_cons, List.length_append]
    by_cases hc : a - (l[j].length : Int) < 0
    ·refine ⟨-1, fun h => absurd h (by decide), Ev.succ ?_⟩
     simp only [laws_szIntSS.l0, h1, if_true, nat_nonneg, rdLL, hg, laws_szIntS.f, wrap_id (x := a - (l[j].length : Int)) (by omega) (by omega), eq_true hc, Option.bind_some, show ((-1 : Int) < 0) = True from eq_true (by decide)]
     exact Ev.now _
    ·obtain ⟨r, h3, h4⟩ := ih (j + 1) (by omega) (a - (l[j].length : Int)) (by omega) (by omega)
     refine ⟨r, fun h => ⟨by have := (h3 h).1; rw [hd]; omega, (h3 h).2⟩, Ev.succ ?_⟩
     simp only [laws_szIntSS.l0, h1, if_true, nat_nonneg, rdLL, hg, laws_szIntS.f, wrap_id (x := a - (l[j].length : Int)) (by omega) (by omega), eq_false hc, if_false, Option.bind_some, wrap_succ (show j < 4611686018427387904 by omega)]
     exact h4
  obtain ⟨r, h3, h4⟩ := key l.length 0 (by omega) (A - (l.length : Int)) (by omega) (by omega)
  refine ⟨r, fun h => ⟨by have := (h3 h).1; simp only [List.drop_zero] at this; omega, (h3 h).2⟩, ?_⟩
  simp only [eq_false h0, if_false]
  exact h4
theorem flat_mem {l : List (List Int)} {y : List Int} (h : y ∈ l) : y.length ≤ l.flatten.length := by
 obtain ⟨a, b, rfl⟩ := List.append_of_mem h
 rw [List.flatten_append, List.flatten_cons, List.length_append, List.length_append]
 omega
noncomputable def wmark (a : Int) (x : S62) : S62 := ⟨mtext a, markInts (a + 1) x.f1.length, a + 1 + x.f1.length⟩
def wcnt (x : S62) : Nat := x.f1.length + 2
theorem wmarks_le : ∀ (l : List S56) (a : Int), markEnd wcnt a (l.map wconv) ≤ a + 2 * l.length + wsum l
 | [], a => by simp [markEnd, wsum]
 | x :: r, a => by
  have h := wmarks_le r (a + wcnt (wconv x))
  have e : wcnt (wconv x) = x.f1.length + 2 := rfl
  have e2 : wsum (x :: r) = x.f0.size + x.f1.length + wsum r := rfl
  simp only [List.map_cons, markEnd, List.length_cons]
  omega
theorem markWordS_ev (l : List S62) (a : Int) (hl : l.length ≤ 1048576) (h0 : 0 ≤ a) (ha : markEnd wcnt a l ≤ 1000000000) : Ev (fun k => laws_markWordS.f k l a) (markEnd wcnt a l, markAll wmark wcnt a l) := by
 unfold laws_markWordS.f
 refine Ev.mark wmark wcnt z62 1000000000 l.length (fun k s a j => laws_markWordS.l0 k s a j) ?_ ?_ l a rfl h0 ha
 ·intro s j a r hj hs h0 h1 h
  refine Ev.succ ?_
  have h1' : a + (((s.getD j z62).f1.length + 2 : Nat) : Int) ≤ 1000000000 := h1
  have e : (rd_T62 s (j : Int)) = s.getD j z62 := rdw s j
  have h3 : ((j : Int) < (s.length : Int)) = True := eq_true (by omega)
  have e4 : wrap64 ((j : Int) + 1) = ((j + 1 : Nat) : Int) := wrap_succ (by omega)
  simp only [laws_markWordS.l0, h3, if_true, nat_nonneg, e, Int.toNat_natCast, e4, wrap_id (x := a + 1) (by omega) (by omega)]
  refine Ev.bind (markText_ev a (by omega)) ?_
  refine Ev.bind (markIntS_ev _ (a + 1) (by omega) (by omega)) ?_
  have e3 : wrap64 (a + 1 + ((s.getD j z62).f1.length : Int) + 1) = a + ((wcnt (s.getD j z62) : Nat) : Int) := by rw [wrap_id (by omega) (by omega)]; unfold wcnt; omega
  rw [e3]
  exact h
 ·intro s a hs
  refine Ev.succ ?_
  simp only [laws_markWordS.l0, hs, Int.lt_irrefl, if_false]
  exact Ev.now _
/-! lists of lists -/
def lmark (a : Int) (x : List Int) : List Int := markInts a x.length
theorem lmarks_eq : ∀ (l : List (List Int)) (a : Int), markEnd List.length a l = a + l.flatten.length
 | [], a => by simp [markEnd]
 | x :: r, a => by
  rw [markEnd, lmarks_eq r, List.flatten_cons, List.length_append]
  omega
theorem markIntSS_ev (l : List (List Int)) (a : Int) (hl : l.length ≤ 1048576) (h0 : 0 ≤ a) (ha : markEnd List.length a l ≤ 1000000000) : Ev (fun k => laws_markIntSS.f k l a) (markEnd List.length a l, markAll lmark List.length a l) := by
 unfold laws_markIntSS.f
 refine Ev.mark lmark List.length [] 1000000000 l.length (fun k s a j => laws_markIntSS.l0 k s a j) ?_ ?_ l a rfl h0 ha
 ·intro s j a r hj hs h0 h1 h
  refine Ev.succ ?_
  have h3 : ((j : Int) < (s.length : Int)) = True := eq_true (by omega)
  have e4 : wrap64 ((j : Int) + 1) = ((j + 1 : Nat) : Int) := wrap_succ (by omega)
  simp only [laws_markIntSS.l0, h3, if_true, nat_nonneg, Int.toNat_natCast, e4]
  exact Ev.bind (markIntS_ev _ a (by omega) (by omega)) h
 ·intro s a hs
  refine Ev.succ ?_
  simp only [laws_markIntSS.l0, hs, Int.lt_irrefl, if_false]
  exact Ev.now _
end Go.Proofs.YtnafjfdalapegaaGreat.Pure
namespace Go.Proofs.YtnafjfdalapegaaGreat.Pure
open Go.RowKit Go.Proofs.YtnafjfdalapegaaGreat.Q Go.Proofs.YtnafjfdalapegaaGreatW.PrintWords Go.Proofs.YtnafjfdalapegaaGreatW.PrintLast

theorem makeQ_ev (l : List S62) (ls : List (List Int)) (n a c : Int) (hl0 : l.length ≤ 1048576) (hz : WSz l) (hs : ls.flatten.length ≤ 1048576) (hl : ls.length ≤ 1048576) : ∃ r : Int × List Int × Bool, Ev (fun k => impl_MakeQuestion.f k l ls n a c) r ∧ Ev (fun k => spec_MakeQuestion.f k l ls n a c) r ∧ r.2.1.length ≤ 4 := by
 have bS : Ev (fun k => spec_MakeQuestion.j0 k l ls n a c true) (0, ([] : List Int), false) := by
  refine Ev.succ ?_
  simp only [spec_MakeQuestion.j0, if_true]
  exact Ev.now _
 have hG := areGood_ev l ls hl0 hz hs hl
 have hA := exAsked_ev l ls n hl0 hz hs hl
 have htop : wrap64 ((l.length : Int) - 1) = topW l := rfl
 cases hg : goodB l ls with
 | false =>
  rw [hg] at hG hA
  rw [Bool.false_and] at hA
  refine ⟨(0, [], false), ?_, ?_, by simp⟩
  ·unfold impl_MakeQuestion.f
   refine Ev.bind hG ?_
   simp only [Bool.false_eq_true, if_false]
   exact Ev.now _
  ·unfold spec_MakeQuestion.f
   refine Ev.bind hA ?_
   simp only [Bool.false_eq_true, if_false]
   exact bS
 | true =>
  rw [hg] at hG hA
  rw [Bool.true_and] at hA
  cases hn : inB n 0 ls.length with
  | false =>
   rw [hn] at hA
   refine ⟨(0, [], false), ?_, ?_, by simp⟩
   ·unfold impl_MakeQuestion.f
    refine Ev.bind hG ?_
    simp only [if_true, within_eq, Option.bind_some, hn, Bool.false_eq_true, if_false]
    exact Ev.now _
   ·unfold spec_MakeQuestion.f
    refine Ev.bind hA ?_
    simp only [Bool.false_eq_true, if_false]
    exact bS
  | true =>
   rw [hn] at hA
   cases ha : inB a 0 (topW l) with
   | false =>
    refine ⟨(0, [], false), ?_, ?_, by simp⟩
    ·unfold impl_MakeQuestion.f
     refine Ev.bind hG ?_
     simp only [if_true, within_eq, Option.bind_some, hn, htop, ha, Bool.false_eq_true, if_false]
     exact Ev.now _
    ·unfold spec_MakeQuestion.f
     refine Ev.bind hA ?_
     simp only [if_true, l1In_eq, Option.bind_some, htop, ha, Bool.false_eq_true, if_false]
     exact bS
   | true =>
    cases hc : inB c 2 4 with
    | false =>
     refine ⟨(0, [], false), ?_, ?_, by simp⟩
     ·unfold impl_MakeQuestion.f
      refine Ev.bind hG ?_
      simp only [if_true, within_eq, Option.bind_some, hn, htop, ha, hc, Bool.false_eq_true, if_false]
      exact Ev.now _
     ·unfold spec_MakeQuestion.f
      refine Ev.bind hA ?_
      simp only [if_true, l1In_eq, Option.bind_some, htop, ha, hc, Bool.not_false]
      exact bS
    | true =>
     have hn' : 0 ≤ n ∧ n ≤ (ls.length : Int) := of_decide_eq_true hn
     have ha' : 0 ≤ a ∧ a ≤ topW l := of_decide_eq_true ha
     have hc' : 2 ≤ c ∧ c ≤ 4 := of_decide_eq_true hc
     rw [topW_eq l hl0] at ha'
     have hgg := hg
     unfold goodB lessB at hgg
     rw [Bool.and_eq_true, Bool.and_eq_true, Bool.and_eq_true, Bool.and_eq_true] at hgg
     have hw := hgg.1
     obtain ⟨f1, f2, _⟩ := (okFrom_iff l ls.flatten []).1 hgg.2.2.2.1
     have hfl : ls.flatten = (ls.take n.toNat).flatten ++ (ls.drop n.toNat).flatten := by rw [← List.flatten_append, List.take_append_drop]
     have hr0 : ∀ x, x ∈ ls.flatten → 0 ≤ x ∧ x < (l.length : Int) := fun x hx => by
      have := f1 x hx
      rw [topW_eq l hl0] at this
      omega
     have hr : ∀ x, x ∈ (ls.take n.toNat).flatten → 0 ≤ x ∧ x < l.length := fun x hx => hr0 x (by rw [hfl]; exact List.mem_append_left _ hx)
     have hnd : (ls.take n.toNat).flatten.Nodup := by rw [hfl] at f2; exact (List.nodup_append.1 f2).1
     obtain ⟨T, t1, t2, t3⟩ := exTaughtU_ev ls n hs hl (by omega) (by omega)
     obtain ⟨m, m1, m2, m3⟩ := make_ev l (ls.take n.toNat) a c hw hr hnd (by rw [List.length_take]; omega) (by omega) hc' T t2 t3
     refine ⟨m, ?_, ?_, m3⟩
     ·unfold impl_MakeQuestion.f
      refine Ev.bind hG ?_
      simp only [if_true, within_eq, Option.bind_some, hn, htop, ha, hc, eq_true hn'.1, eq_true hn'.2]
      refine Ev.bind m1 ?_
      exact Ev.now _
     ·unfold spec_MakeQuestion.f
      refine Ev.bind hA ?_
      simp only [if_true, l1In_eq, Option.bind_some, htop, ha, hc, Bool.not_true]
      refine Ev.succ ?_
      simp only [spec_MakeQuestion.j0, Bool.false_eq_true, if_false]
      refine Ev.bind t1 ?_
      refine Ev.bind m2 ?_
      exact Ev.now _
theorem eqQ_ev (a : Int) (l : List Int) (hl : l.length < 4611686018427387904) : Ev (fun k => laws_eqQuestion.f k a l a l) true := by
 unfold laws_eqQuestion.f
 simp only [if_true]
 refine Ev.bind (eqIntS_ev l hl) ?_
 simp only [if_true]
 exact Ev.now _
theorem markQ_ev (a : Int) (l : List Int) (hl : l.length ≤ 1000) : Ev (fun k => laws_markQuestion.f k a l 1) (1 + (l.length : Int), markInts 1 l.length) := by
 unfold laws_markQuestion.f
 exact Ev.bind (markIntS_ev l 1 (by decide) (by omega)) (Ev.now _)
theorem heldQ_ev (a : Int) (n : Nat) (hn : n ≤ 1000) : Ev (fun k => laws_heldQuestion.f k a (markInts 1 n) 1) (1 + (n : Int)) := by
 unfold laws_heldQuestion.f
 refine Ev.bind (heldIntS_ev n 1 (by decide) (by omega)) ?_
 simp only [show (1 + (n : Int) < 0) = False from eq_false (by omega), if_false]
 exact Ev.now _

theorem FnExactMakeQuestion : laws_FnExactMakeQuestion.Pure := by
 intro l ls n a c h hz h2 hz2 _ _ _
 refine Ev.rounds ?_
 unfold laws_FnExactMakeQuestion.f
 obtain ⟨r, hb, hr⟩ := szWordS_ev l h hz
 refine Ev.bind hr ?_
 by_cases h0 : r < 0
 ·simp only [eq_true h0, if_true]
  exact Ev.now _
 simp only [eq_false h0, if_false]
 obtain ⟨hb1, hb2⟩ := hb (by omega)
 have hy : ∀ y, y ∈ ls → y.length * 8 ≤ 140737488351232 := fun y hy => (hz2 y hy).1
 obtain ⟨r2, hc, hr2⟩ := szIntSS_ev ls r (by omega) hb2 h2 hy
 refine Ev.bind hr2 ?_
 by_cases h1 : r2 < 0
 ·simp only [eq_true h1, if_true]
  exact Ev.now _
 simp only [eq_false h1, if_false]
 obtain ⟨hc1, _⟩ := hc (by omega)
 have hk : (l.map wconv).length ≤ 1048576 := by rw [List.length_map]; omega
 have hs := wsz_map l (by omega)
 obtain ⟨W, hi, hsp, hW⟩ := makeQ_ev (l.map wconv) ls n a c hk hs (by omega) (by omega)
 refine Ev.bind (toWordS_ev l h hz) ?_
 refine Ev.bind (toIntSS_ev ls h2 hy) ?_
 refine Ev.bind hsp ?_
 refine Ev.bind (toWordS_ev l h hz) ?_
 refine Ev.bind (toIntSS_ev ls h2 hy) ?_
 refine Ev.bind hi ?_
 refine Ev.bind (eqQ_ev _ _ (by omega)) ?_
 simp only [if_true]
 refine Ev.bind (toWordS_ev l h hz) ?_
 refine Ev.bind (eqWordS_ev _ (by omega) hs) ?_
 simp only [if_true]
 refine Ev.bind (toIntSS_ev ls h2 hy) ?_
 refine Ev.bind (eqIntSS_ev ls (by omega) (fun y hy => by have := flat_mem hy; omega)) ?_
 simp only [if_true]
 have hm := wmarks_le l 1
 have hg := markEnd_ge wcnt (l.map wconv) 1
 refine Ev.bind (markWordS_ev _ 1 hk (by decide) (by omega)) ?_
 have hm2 := lmarks_eq ls (markEnd wcnt 1 (l.map wconv))
 refine Ev.bind (markIntSS_ev ls (markEnd wcnt 1 (l.map wconv)) (by omega) (by omega) (by omega)) ?_
 simp only [show (markEnd List.length (markEnd wcnt 1 (l.map wconv)) ls < 0) = False from eq_false (by omega), if_false]
 refine Ev.bind (eqQ_ev _ _ (by omega)) ?_
 simp only [if_true]
 refine Ev.bind (markQ_ev _ _ (by omega)) ?_
 refine Ev.bind (heldQ_ev _ _ (by omega)) ?_
 simp only [show (1 + (W.2.1.length : Int) < 0) = False from eq_false (by omega), if_false, if_true]
 refine Ev.bind (toWordS_ev l h hz) ?_
 refine Ev.bind (toIntSS_ev ls h2 hy) ?_
 refine Ev.bind hi ?_
 refine Ev.bind (eqQ_ev _ _ (by omega)) ?_
 simp only [if_true]
 refine Ev.bind (heldQ_ev _ _ (by omega)) ?_
 simp only [show (1 + (W.2.1.length : Int) < 0) = False from eq_false (by omega), if_false, if_true]
 exact Ev.now _
end Go.Proofs.YtnafjfdalapegaaGreat.Pure
