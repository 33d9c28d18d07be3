/- For all words, lessons, numbers, questions and answers, the program's NextLesson returns what the reference's NextLesson returns, and leaves all lists alone. No condition. -/
import Derived.Test.YtnafjfdalapegaaGreatQBImplAreAnswered
import Derived.Test.YtnafjfdalapegaaGreatQBImplHasNeeds1
import Derived.Test.YtnafjfdalapegaaGreatQBImplIsTaught
import Derived.Test.YtnafjfdalapegaaGreatQBImplQuestionIsRight
import Derived.Test.YtnafjfdalapegaaGreatQBLawsEqQuestion
import Derived.Test.YtnafjfdalapegaaGreatQBLawsSzIntS
import Derived.Test.YtnafjfdalapegaaGreatQBSlicesGrowInt
import Derived.Test.YtnafjfdalapegaaGreatQBSlicesIndexInt
import Derived.Test.YtnafjfdalapegaaGreatQBSpecExFair
import Derived.Test.YtnafjfdalapegaaGreatQBSpecLeReady
import Derived.Test.YtnafjfdalapegaaGreatQBounds
import Derived.Test.YtnafjfdalapegaaGreatQImplAllOfImplQuestion
import Derived.Test.YtnafjfdalapegaaGreatQImplAllOfInt
import Derived.Test.YtnafjfdalapegaaGreatQImplAllWithin
import Derived.Test.YtnafjfdalapegaaGreatQImplAreWords
import Derived.Test.YtnafjfdalapegaaGreatQImplIsQuestion
import Derived.Test.YtnafjfdalapegaaGreatQImplIsTaught1
import Derived.Test.YtnafjfdalapegaaGreatQImplNextLesson1
import Derived.Test.YtnafjfdalapegaaGreatQLawsFnExactNextLesson
import Derived.Test.YtnafjfdalapegaaGreatQSlicesContainsFuncImplWord
import Derived.Test.YtnafjfdalapegaaGreatQSpecExAnswers
import Derived.Test.YtnafjfdalapegaaGreatQ0
import Derived.Test.YtnafjfdalapegaaGreatWWords
import Derived.Lib.SlicesCompact
import Derived.Lib.Bytealg
import Derived.Test.YtnafjfdalapegaaGreatGIdx
set_option linter.unusedVariables false
set_option linter.unusedSimpArgs false
namespace Go.Proofs.YtnafjfdalapegaaGreat.Pure
open Go.RowKit Go.Proofs.YtnafjfdalapegaaGreat.Q Go.Proofs.YtnafjfdalapegaaGreatW.PrintLast Go.Proofs.YtnafjfdalapegaaGreatW.PrintWords
theorem Ev.succ {α : Type} {g : Nat → Option α} {r : α} (h : Ev (fun k => g (k + 1)) r) : Ev g r := Ev.step (fun _ => rfl) h
theorem Ev.k {α : Type} {g : Nat → Option α} {o : Option α} {r : α} (hg : ∀ k, g k = o) (h : o = some r) : Ev g r := ⟨0, fun k _ => (hg k).trans h⟩
theorem Ev.eq {α : Type} {g : Nat → Option α} {r r' : α} (h : Ev g r) (e : r = r') : Ev g r' := e ▸ h
/-- From round i up to round n. -/
theorem Ev.upto {β : Type} {L : Nat → Nat → Option β} {r : β} {n : Nat} (hend : Ev (fun k => L k n) r)
  (hstep : ∀ j, j < n → Ev (fun k => L k (j + 1)) r → Ev (fun k => L k j) r) : ∀ i, i ≤ n → Ev (fun k => L k i) r := by
 intro i hi
 obtain ⟨d, hd⟩ : ∃ d, n = i + d := ⟨n - i, by omega⟩
 induction d generalizing i with
 | zero => simp at hd; subst hd; exact hend
 | succ d ih => exact hstep i (by omega) (ih (i + 1) (by omega) (by omega))
/-- A loop that ends early where P fails. -/
theorem Ev.all {β : Type} {L : Nat → Nat → Option β} {P : Nat → Bool} {n : Nat} {a b : β} (hend : Ev (fun k => L k n) a)
  (hyes : ∀ j r, j < n → P j = true → Ev (fun k => L k (j + 1)) r → Ev (fun k => L k j) r) (hno : ∀ j, j < n → P j = false → Ev (fun k => L k j) b) :
  ∀ i, i ≤ n → Ev (fun k => L k i) (if (List.range' i (n - i)).all P then a else b) := by
 intro i hi
 obtain ⟨d, hd⟩ : ∃ d, n = i + d := ⟨n - i, by omega⟩
 induction d generalizing i with
 | zero => simp at hd; subst hd; simpa using hend
 | succ d ih =>
  have h1 : n - i = (n - (i + 1)) + 1 := by omega
  rw [h1, List.range'_succ]
  simp only [List.all_cons]
  rcases Bool.eq_false_or_eq_true (P i) with hP | hP
  ·simp only [hP, Bool.true_and]
   exact hyes i _ (by omega) hP (ih (i + 1) (by omega) (by omega))
  ·simpa [hP] using hno i (by omega) hP
theorem Ev.all0 {β : Type} {L : Nat → Nat → Option β} {P : Nat → Bool} {n : Nat} {a b : β} (hend : Ev (fun k => L k n) a)
  (hyes : ∀ j r, j < n → P j = true → Ev (fun k => L k (j + 1)) r → Ev (fun k => L k j) r) (hno : ∀ j, j < n → P j = false → Ev (fun k => L k j) b) :
  Ev (fun k => L k 0) (if (List.range n).all P then a else b) := by
 have := Ev.all hend hyes hno 0 (Nat.zero_le _)
 rwa [Nat.sub_zero, ← List.range_eq_range'] at this

theorem wrap_id {x : Int} (h0 : -9223372036854775808 ≤ x) (h1 : x ≤ 9223372036854775807) : wrap64 x = x := by
 unfold wrap64
 omega
theorem wrap_succ {n : Nat} (h : n < 4611686018427387904) : wrap64 ((n : Int) + 1) = ((n + 1 : Nat) : Int) := by
 rw [wrap_id (by omega) (by omega)]
 omega
theorem wrap_pred {n : Nat} (h0 : 0 < n) (h : n < 4611686018427387904) : wrap64 ((n : Int) - 1) = ((n - 1 : Nat) : Int) := by
 rw [wrap_id (by omega) (by omega)]
 omega
theorem nat_nonneg (n : Nat) : (0 ≤ (n : Int)) = True := eq_true (Int.natCast_nonneg n)
/-- A copy, element by element, into a row that was made. -/
theorem Ev.copy {α β : Type} (f : α → β) (l : List α) (za : α) (zb : β) (L : Nat → List β → Int → Option (List β))
  (hstep : ∀ (j : Nat) (s r : List β), j < l.length → s.length = l.length → Ev (fun k => L k (s.set j (f (l.getD j za))) ((j + 1 : Nat) : Int)) r → Ev (fun k => L k s (j : Int)) r)
  (hend : ∀ s : List β, s.length = l.length → Ev (fun k => L k s (l.length : Int)) s) : Ev (fun k => L k (List.replicate l.length zb) 0) (l.map f) := by
 have key := Ev.upto (L := fun k j => L k ((l.map f).take j ++ List.replicate (l.length - j) zb) (j : Int)) (r := l.map f) (n := l.length)
  (by
   have h := hend ((l.map f).take l.length ++ List.replicate (l.length - l.length) zb) (by simp)
   refine Ev.eq h ?_
   rw [Nat.sub_self, List.replicate_zero, List.append_nil, List.take_of_length_le (by simp)])
  (by
   intro j hj h
   have hlen : ((l.map f).take j ++ List.replicate (l.length - j) zb).length = l.length := by simp; omega
   refine hstep j _ _ hj hlen ?_
   have e : ((l.map f).take j ++ List.replicate (l.length - j) zb).set j (f (l.getD j za)) = (l.map f).take (j + 1) ++ List.replicate (l.length - (j + 1)) zb := by
    have e1 : l.length - j = (l.length - (j + 1)) + 1 := by omega
    rw [e1, List.replicate_succ, List.set_append_right _ _ (by simp; omega)]
    have e2 : j - ((l.map f).take j).length = 0 := by simp; omega
    rw [e2, List.set_cons_zero, List.take_succ_eq_append_getElem (by simpa using hj)]
    simp [List.getD_eq_getElem?_getD, List.getElem?_eq_getElem hj]
   rw [e]
   exact h)
  0 (Nat.zero_le _)
 simpa using key
def inB (a b c : Int) : Bool := decide (b ≤ a ∧ a ≤ c)
theorem l1In_eq (a b c : Int) : spec_l1In.f a b c = some (inB a b c) := by
 unfold spec_l1In.f inB
 split <;> simp <;> omega
theorem within_eq (a b c : Int) : impl_within.f a b c = some (inB a b c) := by
 unfold impl_within.f inB
 split <;> simp <;> omega
theorem rdJ (l : List Int) (j : Nat) : rd l (j : Int) = l.getD j 0 := by simp [rd]
/-- The first place of x among d elements from j on, or -1. -/
def idxD (l : List Int) (x : Int) : Nat → Nat → Int
 | 0, _ => -1
 | d + 1, j => if l.getD j 0 = x then (j : Int) else idxD l x d (j + 1)
theorem idxD_nonneg (l : List Int) (x : Int) : ∀ d j, (0 ≤ idxD l x d j) ↔ ∃ i, j ≤ i ∧ i < j + d ∧ l.getD i 0 = x := by
 intro d
 induction d with
 | zero => intro j; simp only [idxD]; constructor <;> intro h <;> omega
 | succ d ih =>
  intro j
  rw [idxD]
  by_cases h : l.getD j 0 = x
  ·rw [if_pos h]
   exact ⟨fun _ => ⟨j, by omega, by omega, h⟩, fun _ => by omega⟩
  ·rw [if_neg h, ih]
   constructor
   ·rintro ⟨i, h1, h2, h3⟩
    exact ⟨i, by omega, by omega, h3⟩
   ·rintro ⟨i, h1, h2, h3⟩
    have : i ≠ j := fun e => h (e ▸ h3)
    exact ⟨i, by omega, by omega, h3⟩
theorem getD_mem_iff (l : List Int) (x : Int) : (∃ i, 0 ≤ i ∧ i < 0 + l.length ∧ l.getD i 0 = x) ↔ x ∈ l := by
 rw [List.mem_iff_getElem]
 constructor
 ·rintro ⟨i, _, h2, h3⟩
  refine ⟨i, by omega, ?_⟩
  rw [← h3, List.getD_eq_getElem?_getD, List.getElem?_eq_getElem (by omega)]
  rfl
 ·rintro ⟨i, h2, h3⟩
  refine ⟨i, by omega, by omega, ?_⟩
  rw [List.getD_eq_getElem?_getD, List.getElem?_eq_getElem h2]
  exact h3
theorem idxD_mem (l : List Int) (x : Int) : decide (idxD l x l.length 0 ≥ 0) = decide (x ∈ l) := by
 rw [decide_eq_decide]
 exact (idxD_nonneg l x l.length 0).trans (getD_mem_iff l x)
theorem index_l0 (l : List Int) (x : Int) (hl : l.length < 4611686018427387904) : ∀ d j, j + d = l.length → Ev (fun k => slices_Index_int.l0 k l x (l.length : Int) (j : Int)) (idxD l x d j) := by
 intro d
 induction d with
 | zero =>
  intro j hj
  refine Ev.succ ?_
  have h1 : ((j : Int) < (l.length : Int)) = False := eq_false (by omega)
  simp only [slices_Index_int.l0, h1, if_false, idxD]
  exact Ev.now _
 | succ d ih =>
  intro j hj
  refine Ev.succ ?_
  have h1 : ((j : Int) < (l.length : Int)) = True := eq_true (by omega)
  simp only [slices_Index_int.l0, h1, if_true, nat_nonneg, rdJ, wrap_succ (show j < 4611686018427387904 by omega), idxD]
  by_cases h : l.getD j 0 = x
  ·simp only [eq_true h, eq_true h.symm, if_true]
   exact Ev.now _
  ·simp only [eq_false h, eq_false (fun e : x = l.getD j 0 => h e.symm), if_false]
   exact ih (j + 1) (by omega)
theorem index_ev (l : List Int) (x : Int) (hl : l.length < 4611686018427387904) : Ev (fun k => slices_Index_int.f k l x) (idxD l x l.length 0) := by
 unfold slices_Index_int.f
 exact index_l0 l x hl l.length 0 (by omega)
theorem contains_ev (l : List Int) (x : Int) (hl : l.length < 4611686018427387904) : Ev (fun k => slices_Contains_int.f k l x) (decide (x ∈ l)) := by
 unfold slices_Contains_int.f
 refine Ev.bind (index_ev l x hl) ?_
 rw [idxD_mem]
 exact Ev.now _
theorem l1Has_l0 (l : List Int) (x : Int) (hl : l.length < 4611686018427387904) : ∀ d j, j + d = l.length → Ev (fun k => spec_l1Has.l0 k x l (l.length : Int) (j : Int)) (decide (idxD l x d j ≥ 0)) := by
 intro d
 induction d with
 | zero =>
  intro j hj
  refine Ev.succ ?_
  have h1 : ((j : Int) < (l.length : Int)) = False := eq_false (by omega)
  simp only [spec_l1Has.l0, h1, if_false, idxD]
  exact Ev.now _
 | succ d ih =>
  intro j hj
  refine Ev.succ ?_
  have h1 : ((j : Int) < (l.length : Int)) = True := eq_true (by omega)
  simp only [spec_l1Has.l0, h1, if_true, nat_nonneg, rdJ, wrap_succ (show j < 4611686018427387904 by omega), idxD]
  by_cases h : l.getD j 0 = x
  ·simp only [eq_true h, if_true]
   refine Ev.eq (Ev.now _) ?_
   simp
  ·simp only [eq_false h, if_false]
   exact ih (j + 1) (by omega)
theorem l1Has_ev (l : List Int) (x : Int) (hl : l.length < 4611686018427387904) : Ev (fun k => spec_l1Has.f k l x) (decide (x ∈ l)) := by
 unfold spec_l1Has.f
 rw [← idxD_mem]
 exact l1Has_l0 l x hl l.length 0 (by omega)
theorem pairs_lt (zs : List Int) (h : ∀ j, 0 < j → (hj : j < zs.length) → zs[j - 1]'(by omega) < zs[j]) : ∀ (d i : Nat) (hi : i + d + 1 < zs.length), zs[i]'(by omega) < zs[i + d + 1] := by
 intro d
 induction d with
 | zero => intro i hi; exact h (i + 1) (by omega) hi
 | succ d ih =>
  intro i hi
  have h1 := ih i (by omega)
  have h2 := h (i + d + 1 + 1) (by omega) hi
  have h3 : zs[i + d + 1 + 1 - 1]'(by omega) = zs[i + d + 1]'(by omega) := by congr 1
  have h4 : zs[i + (d + 1) + 1] = zs[i + d + 1 + 1] := by congr 1
  omega
theorem compact_len_iff (zs : List Int) (hs : zs.Pairwise (· ≤ ·)) : (Lib.compact zs).length = zs.length ↔ zs.Nodup := by
 have e : (Lib.compact zs).length = ((List.range zs.length).filter (Lib.keeps zs.toArray)).length := by simp [Lib.compact, Lib.compactUpTo]
 rw [e]
 have e2 : ((List.range zs.length).filter (Lib.keeps zs.toArray)).length = zs.length ↔ ∀ j, j < zs.length → Lib.keeps zs.toArray j = true := by
  constructor
  ·intro h j hj
   have h' : ((List.range zs.length).filter (Lib.keeps zs.toArray)).length = (List.range zs.length).length := by rw [h, List.length_range]
   exact List.length_filter_eq_length_iff.1 h' j (List.mem_range.2 hj)
  ·intro h
   have := List.length_filter_eq_length_iff.2 (fun j hj => h j (List.mem_range.1 hj))
   rw [this, List.length_range]
 rw [e2]
 have hle := List.pairwise_iff_getElem.1 hs
 constructor
 ·intro h
  have hlt : ∀ j, 0 < j → (hj : j < zs.length) → zs[j - 1]'(by omega) < zs[j] := by
   intro j h0 hj
   have h1 := hle (j - 1) j (by omega) hj (by omega)
   have h2 := h j hj
   have h3 : zs[j - 1]'(by omega) ≠ zs[j] := by
    intro e3
    have := Lib.keeps_neg (d := zs.toArray) h0 (by simp [getElem!_pos, show j < zs.length by omega, show j - 1 < zs.length by omega, e3])
    rw [this] at h2
    cases h2
   omega
  rw [List.Nodup, List.pairwise_iff_getElem]
  intro i j hi hj hij
  have := pairs_lt zs hlt (j - i - 1) i (by omega)
  have e4 : zs[i + (j - i - 1) + 1]'(by omega) = zs[j] := by congr 1; omega
  omega
 ·intro h j hj
  rw [List.Nodup, List.pairwise_iff_getElem] at h
  by_cases h0 : j = 0
  ·subst h0; exact Lib.keeps_lt_one _ 0 (by omega)
  ·refine Lib.keeps_pos ?_
   have := h (j - 1) j (by omega) hj (by omega)
   simp [getElem!_pos, show j < zs.length by omega, show j - 1 < zs.length by omega]
   exact fun e => this e.symm
theorem distinct_len (l : List Int) (hl : l.length < 17592186044416) : ∃ r, impl_distinct_int.f l = some r ∧ (r.length = l.length ↔ l.Nodup) := by
 unfold impl_distinct_int.f slices_Clone_int.f
 simp only [Option.bind_some, List.length_nil, Nat.zero_add, List.nil_append, eq_true hl, if_true]
 refine ⟨_, rfl, ?_⟩
 have hp : (impl_distinct_int.sorted l).Perm l := List.mergeSort_perm _ _
 have hs : (impl_distinct_int.sorted l).Pairwise (· ≤ ·) := by
  have := List.pairwise_mergeSort (le := fun x y : Int => decide (x ≤ y)) (by intro a b c; simp; omega) (by intro a b; simp; omega) l
  exact this.imp (fun h => of_decide_eq_true h)
 rw [← hp.length_eq, compact_len_iff _ hs]
 exact hp.nodup_iff
def capAt (s : ByteArray) (j : Nat) : Bool := decide (65 ≤ bt s j ∧ bt s j ≤ 90)
def glossB (s : ByteArray) : Bool := inB s.size 1 8 && (List.range s.size).all (capAt s)
def caps : ByteArray := ⟨#[65, 66, 67, 68, 69, 70, 71, 72, 73, 74, 75, 76, 77, 78, 79, 80, 81, 82, 83, 84, 85, 86, 87, 88, 89, 90]⟩
theorem caps_all : ((List.range 256).all fun n => decide (Lib.indexByte caps.data.toList n.toUInt8 < 0) == !(decide (65 ≤ n ∧ n ≤ 90))) = true := by decide +kernel
theorem caps_index (b : Int) (h0 : 0 ≤ b) (h1 : b ≤ 255) : (Lib.indexByte caps.data.toList b.toNat.toUInt8 < 0) ↔ ¬ (65 ≤ b ∧ b ≤ 90) := by
 have h := List.all_eq_true.1 caps_all b.toNat (List.mem_range.2 (by omega))
 simp only [beq_iff_eq] at h
 by_cases hc : 65 ≤ b ∧ b ≤ 90
 ·have h2 : decide (65 ≤ b.toNat ∧ b.toNat ≤ 90) = true := decide_eq_true (by omega)
  rw [h2] at h
  exact ⟨fun h3 => absurd h3 (of_decide_eq_false h), fun h3 => absurd hc h3⟩
 ·have h2 : decide (65 ≤ b.toNat ∧ b.toNat ≤ 90) = false := decide_eq_false (by omega)
  rw [h2] at h
  exact ⟨fun _ => hc, fun _ => of_decide_eq_true h⟩
theorem hasOnly_ev (s : ByteArray) (hs : s.size < 4611686018427387904) : Ev (fun k => impl_hasOnly.f k s caps) ((List.range s.size).all (capAt s)) := by
 unfold impl_hasOnly.f
 refine Ev.eq (Ev.all0 (L := fun k j => impl_hasOnly.l0 k s caps (s.size : Int) (j : Int)) (P := capAt s) (n := s.size) (a := true) (b := false) ?_ ?_ ?_) (by split <;> simp_all)
 ·refine Ev.succ ?_
  simp only [impl_hasOnly.l0, Int.lt_irrefl, if_false]
  exact Ev.now _
 ·intro j r hj hP h
  refine Ev.succ ?_
  have h1 : ((j : Int) < (s.size : Int)) = True := eq_true (by omega)
  have hb := bt_range s (j : Int)
  have h2 : (Lib.indexByte caps.data.toList (bt s (j : Int)).toNat.toUInt8 < 0) = False := eq_false (fun hc => (caps_index _ hb.1 hb.2).1 hc (of_decide_eq_true hP))
  simp only [impl_hasOnly.l0, strings_IndexByte.f, Option.bind_some, h1, if_true, nat_nonneg, h2, if_false, wrap_succ (show j < 4611686018427387904 by omega)]
  exact h
 ·intro j hj hP
  refine Ev.succ ?_
  have h1 : ((j : Int) < (s.size : Int)) = True := eq_true (by omega)
  have hb := bt_range s (j : Int)
  have h2 : (Lib.indexByte caps.data.toList (bt s (j : Int)).toNat.toUInt8 < 0) = True := eq_true ((caps_index _ hb.1 hb.2).2 (of_decide_eq_false hP))
  simp only [impl_hasOnly.l0, strings_IndexByte.f, Option.bind_some, h1, if_true, nat_nonneg, h2]
  exact Ev.now _
theorem isGloss_ev (s : ByteArray) (hs : s.size < 4611686018427387904) : Ev (fun k => impl_IsGloss.f k s) (glossB s) := by
 unfold impl_IsGloss.f impl_isWordOf.f glossB
 refine Ev.bind (a := inB s.size 1 8 && (List.range s.size).all (capAt s)) ?_ (Ev.now _)
 simp only [within_eq, Option.bind_some]
 rcases Bool.eq_false_or_eq_true (inB s.size 1 8) with h | h
 ·simp only [h, if_true, Bool.true_and]
  exact Ev.bind (hasOnly_ev s hs) (Ev.now _)
 ·simp only [h]
  exact Ev.now _
theorem enGloss_ev (s : ByteArray) (hs : s.size < 4611686018427387904) : Ev (fun k => spec_enGloss.f k s) (glossB s) := by
 unfold spec_enGloss.f
 refine Ev.eq (Ev.all0 (L := fun k j => spec_enGloss.l0 k s (j : Int)) (P := capAt s) (n := s.size) (a := inB s.size 1 8) (b := false) ?_ ?_ ?_) (by unfold glossB; split <;> simp_all)
 ·refine Ev.succ ?_
  simp only [spec_enGloss.l0, Int.lt_irrefl, if_false, l1In_eq, Option.bind_some]
  exact Ev.now _
 ·intro j r hj hP h
  refine Ev.succ ?_
  have h1 : ((j : Int) < (s.size : Int)) = True := eq_true (by omega)
  have hP' := of_decide_eq_true hP
  simp only [spec_enGloss.l0, h1, if_true, nat_nonneg, show (bt s (j : Int) < 65) = False from eq_false (by omega), show (bt s (j : Int) > 90) = False from eq_false (by omega), if_false, wrap_succ (show j < 4611686018427387904 by omega)]
  exact h
 ·intro j hj hP
  refine Ev.succ ?_
  have h1 : ((j : Int) < (s.size : Int)) = True := eq_true (by omega)
  have hP' := of_decide_eq_false hP
  simp only [spec_enGloss.l0, h1, if_true, nat_nonneg]
  by_cases h2 : bt s (j : Int) < 65
  ·simp only [eq_true h2, if_true]
   exact Ev.now _
  ·simp only [eq_false h2, if_false, show (bt s (j : Int) > 90) = True from eq_true (by omega), if_true]
   exact Ev.now _
theorem eqIntS_ev (l : List Int) (hl : l.length < 4611686018427387904) : Ev (fun k => laws_eqIntS.f k l l) true := by
 unfold laws_eqIntS.f
 simp only [if_true]
 exact Ev.upto (L := fun k j => laws_eqIntS.l0 k l l (j : Int)) (r := true) (n := l.length)
  (by
   refine Ev.succ ?_
   simp only [laws_eqIntS.l0, Int.lt_irrefl, if_false]
   exact Ev.now _)
  (by
   intro j hj h
   refine Ev.succ ?_
   have h1 : ((j : Int) < (l.length : Int)) = True := eq_true (by omega)
   simp only [laws_eqIntS.l0, h1, if_true, nat_nonneg, wrap_succ (show j < 4611686018427387904 by omega)]
   exact h)
  0 (Nat.zero_le _)
theorem toIntS_ev (l : List Int) (hl : l.length * 8 ≤ 140737488351232) : Ev (fun k => laws_toIntS.f k l) l := by
 unfold laws_toIntS.f
 simp only [nat_nonneg, if_true, Int.toNat_natCast, show (l.length ≤ 35184372088832) = True from eq_true (by omega)]
 have key := Ev.copy (fun x : Int => x) l 0 0 (fun k s j => laws_toIntS.l0 k l s j)
  (by
   intro j s r hj hs h
   refine Ev.succ ?_
   have h1 : ((j : Int) < (l.length : Int)) = True := eq_true (by omega)
   simp only [laws_toIntS.l0, h1, if_true, nat_nonneg, hs, Int.toNat_natCast, wrap_succ (show j < 4611686018427387904 by omega), rdJ]
   exact h)
  (by
   intro s hs
   refine Ev.succ ?_
   simp only [laws_toIntS.l0, Int.lt_irrefl, if_false]
   exact Ev.now _)
 simpa using key

def wat (l : List S62) (j : Nat) : S62 := l.getD j z62
theorem rdw (l : List S62) (j : Nat) : rd_T62 l (j : Int) = wat l j := by simp [rd_T62, wat]
theorem rdwL (l : List S56) (j : Nat) : rd_T56 l (j : Int) = l.getD j z56 := by simp [rd_T56]
theorem wat_get (l : List S62) (j : Nat) (h : j < l.length) : wat l j = l[j] := by unfold wat; rw [List.getD_eq_getElem?_getD, List.getElem?_eq_getElem h]; rfl
/-- All needs and glosses are few and short enough. -/
def WSz (l : List S62) : Prop := ∀ q, q ∈ l → q.f1.length ≤ 1048576 ∧ q.f0.size ≤ 1048576
theorem wsz_at {l : List S62} (hz : WSz l) {j : Nat} (hj : j < l.length) : (wat l j).f1.length ≤ 1048576 ∧ (wat l j).f0.size ≤ 1048576 := by rw [wat_get l j hj]; exact hz _ (List.getElem_mem hj)
/-! strictly rising numbers within bounds -/
def riseAt (l : List Int) (a b : Int) (j : Nat) : Bool := inB (l.getD j 0) a b && (decide (j = 0) || decide (l.getD (j - 1) 0 < l.getD j 0))
def riseB (l : List Int) (a b : Int) : Bool := (List.range l.length).all (riseAt l a b)
theorem l1Rising_ev (l : List Int) (a b : Int) (hl : l.length < 4611686018427387904) : Ev (fun k => spec_l1Rising.f k l a b) (riseB l a b) := by
 unfold spec_l1Rising.f riseB
 refine Ev.eq (Ev.all0 (L := fun k j => spec_l1Rising.l0 k l a b l (l.length : Int) (j : Int)) (P := riseAt l a b) (n := l.length) (a := true) (b := false) ?_ ?_ ?_) (by split <;> simp_all)
 ·refine Ev.succ ?_
  simp only [spec_l1Rising.l0, Int.lt_irrefl, if_false]
  exact Ev.now _
 ·intro j r hj hP h
  refine Ev.succ ?_
  have h1 : ((j : Int) < (l.length : Int)) = True := eq_true (by omega)
  unfold riseAt at hP
  rw [Bool.and_eq_true] at hP
  simp only [spec_l1Rising.l0, h1, if_true, nat_nonneg, rdJ, l1In_eq, Option.bind_some, hP.1, wrap_succ (show j < 4611686018427387904 by omega)]
  by_cases h0 : j = 0
  ·subst h0
   simp only [Int.natCast_zero, gt_iff_lt, Int.lt_irrefl, if_false]
   exact h
  ·have h2 : ((j : Int) > 0) = True := eq_true (by omega)
   have h3 : (((j - 1 : Nat) : Int) < (l.length : Int)) = True := eq_true (by omega)
   have h4 := hP.2
   simp only [h0, decide_false, Bool.false_or, decide_eq_true_eq] at h4
   have h5 : (l.getD (j - 1) 0 ≥ l.getD j 0) = False := eq_false (by omega)
   simp only [h2, if_true, wrap_pred (show 0 < j by omega) (show j < 4611686018427387904 by omega), nat_nonneg, h3, rdJ, h5, if_false]
   exact h
 ·intro j hj hP
  refine Ev.succ ?_
  have h1 : ((j : Int) < (l.length : Int)) = True := eq_true (by omega)
  unfold riseAt at hP
  simp only [spec_l1Rising.l0, h1, if_true, nat_nonneg, rdJ, l1In_eq, Option.bind_some]
  rcases Bool.eq_false_or_eq_true (inB (l.getD j 0) a b) with hb | hb
  ·rw [hb, Bool.true_and, Bool.or_eq_false_iff, decide_eq_false_iff_not, decide_eq_false_iff_not] at hP
   have h2 : ((j : Int) > 0) = True := eq_true (by have := hP.1; omega)
   have h3 : (((j - 1 : Nat) : Int) < (l.length : Int)) = True := eq_true (by omega)
   have h5 : (l.getD (j - 1) 0 ≥ l.getD j 0) = True := eq_true (by have := hP.2; omega)
   simp only [hb, if_true, h2, wrap_pred (show 0 < j by have := hP.1; omega) (show j < 4611686018427387904 by omega), nat_nonneg, h3, rdJ, h5]
   exact Ev.now _
  ·simp only [hb, Bool.false_eq_true, if_false]
   exact Ev.now _
/-! the program's test of an order -/
def sortAt (l : List Int) (j : Nat) : Bool := decide (j = 0) || decide (l.getD (j - 1) 0 ≤ l.getD j 0)
def sortB (l : List Int) : Bool := (List.range l.length).all (sortAt l)
theorem less_eq (a b : Int) : cmp_Less_int.f a b = some (decide (a < b)) := by
 unfold cmp_Less_int.f cmp_isNaN_int.f
 simp
theorem isSorted_l0 (l : List Int) (hl : l.length < 4611686018427387904) : ∀ j, j < l.length → Ev (fun k => slices_IsSorted_int.l0 k l (j : Int)) ((List.range (j + 1)).all (sortAt l)) := by
 intro j
 induction j with
 | zero =>
  intro _
  refine Ev.succ ?_
  simp only [slices_IsSorted_int.l0, Int.natCast_zero, gt_iff_lt, Int.lt_irrefl, if_false]
  refine Ev.eq (Ev.now _) ?_
  simp [sortAt]
 | succ j ih =>
  intro hj
  refine Ev.succ ?_
  have h1 : (((j + 1 : Nat) : Int) > 0) = True := eq_true (by omega)
  have h2 : (((j + 1 : Nat) : Int) < (l.length : Int)) = True := eq_true (by omega)
  have h3 : ((j : Int) < (l.length : Int)) = True := eq_true (by omega)
  have h4 : wrap64 (((j + 1 : Nat) : Int) - 1) = (j : Int) := by rw [wrap_id (by omega) (by omega)]; omega
  simp only [slices_IsSorted_int.l0, h1, h2, if_true, nat_nonneg, h4, h3, rdJ, less_eq, Option.bind_some]
  rw [List.range_succ, List.all_append]
  by_cases h5 : l.getD (j + 1) 0 < l.getD j 0
  ·simp only [h5, decide_true, if_true]
   refine Ev.eq (Ev.now _) ?_
   have : sortAt l (j + 1) = false := by
    unfold sortAt
    simp only [Nat.add_sub_cancel, Bool.or_eq_false_iff, decide_eq_false_iff_not]
    exact ⟨by omega, by omega⟩
   simp [this]
  ·simp only [h5, decide_false, Bool.false_eq_true, if_false]
   refine Ev.eq (ih (by omega)) ?_
   have : sortAt l (j + 1) = true := by
    unfold sortAt
    simp only [Nat.add_sub_cancel, Bool.or_eq_true, decide_eq_true_eq]
    exact Or.inr (by omega)
   simp [this]
theorem isSorted_ev (l : List Int) (hl : l.length < 4611686018427387904) : Ev (fun k => slices_IsSorted_int.f k l) (sortB l) := by
 unfold slices_IsSorted_int.f sortB
 by_cases h0 : l.length = 0
 ·rw [h0]
  refine Ev.succ ?_
  simp only [slices_IsSorted_int.l0, show (wrap64 (((0 : Nat) : Int) - 1) > 0) = False from eq_false (by unfold wrap64; omega), if_false]
  exact Ev.now _
 ·rw [wrap_pred (by omega) (by omega)]
  refine Ev.eq (isSorted_l0 l hl (l.length - 1) (by omega)) ?_
  rw [show l.length - 1 + 1 = l.length by omega]
theorem rise_eq (l : List Int) (a b : Int) : riseB l a b = (l.all (fun x => decide (a ≤ x ∧ x ≤ b)) && (decide l.Nodup && sortB l)) := by
 have hg : ∀ i (hi : i < l.length), l.getD i 0 = l[i] := fun i hi => by rw [List.getD_eq_getElem?_getD, List.getElem?_eq_getElem hi]; rfl
 rw [Bool.eq_iff_iff, Bool.and_eq_true, Bool.and_eq_true, riseB, sortB, List.all_eq_true, List.all_eq_true, List.all_eq_true, decide_eq_true_eq]
 constructor
 ·intro h
  have hlt : ∀ j, 0 < j → (hj : j < l.length) → l[j - 1]'(by omega) < l[j] := by
   intro j h0 hj
   have h2 := h j (List.mem_range.2 hj)
   rw [riseAt, Bool.and_eq_true, Bool.or_eq_true, decide_eq_true_eq, decide_eq_true_eq, hg j hj, hg (j - 1) (by omega)] at h2
   rcases h2.2 with h3 | h3
   ·omega
   ·exact h3
  refine ⟨fun x hx => ?_, ?_, fun j hj => ?_⟩
  ·obtain ⟨i, hi, rfl⟩ := List.getElem_of_mem hx
   have := h i (List.mem_range.2 hi)
   rw [riseAt, hg i hi, Bool.and_eq_true] at this
   exact this.1
  ·rw [List.Nodup, List.pairwise_iff_getElem]
   intro i j hi hj hij
   have := pairs_lt l hlt (j - i - 1) i (by omega)
   have e4 : l[i + (j - i - 1) + 1]'(by omega) = l[j] := by congr 1; omega
   omega
  ·have hj' := List.mem_range.1 hj
   rw [sortAt, Bool.or_eq_true, decide_eq_true_eq, decide_eq_true_eq]
   by_cases h0 : j = 0
   ·exact Or.inl h0
   ·refine Or.inr ?_
    rw [hg j hj', hg (j - 1) (by omega)]
    exact Int.le_of_lt (hlt j (by omega) hj')
 ·rintro ⟨h1, h2, h3⟩ j hj
  have hj' := List.mem_range.1 hj
  rw [riseAt, Bool.and_eq_true, hg j hj']
  refine ⟨h1 _ (List.getElem_mem hj'), ?_⟩
  rw [Bool.or_eq_true, decide_eq_true_eq, decide_eq_true_eq]
  by_cases h0 : j = 0
  ·exact Or.inl h0
  ·have h4 := h3 j hj
   rw [sortAt, Bool.or_eq_true, decide_eq_true_eq, decide_eq_true_eq, hg j hj', hg (j - 1) (by omega)] at h4
   rw [List.Nodup, List.pairwise_iff_getElem] at h2
   have h5 := h2 (j - 1) j (by omega) hj' (by omega)
   rw [hg (j - 1) (by omega)]
   rcases h4 with h4 | h4
   ·exact absurd h4 h0
   ·exact Or.inr (by omega)
/-! words -/
def dupW (l : List S62) (s : ByteArray) : Bool := l.any fun x => decide (x.f0.toList = s.toList)
def topW (l : List S62) : Int := wrap64 ((l.length : Int) - 1)
def goodAt (l : List S62) (j : Nat) : Bool := glossB (wat l j).f0 && (riseB (wat l j).f1 0 (topW l) && (!(decide ((j : Int) ∈ (wat l j).f1)) && (inB (wat l j).f2 0 99999 && !(dupW (l.take j) (wat l j).f0))))
def wordsB (l : List S62) : Bool := (List.range l.length).all (goodAt l) && decide (l.length ≤ 16)
theorem leGood_l1 (l y : List S62) (j : Nat) (s : ByteArray) (n : List Int) (u : Int) (r : Bool) (hy : y.length < 4611686018427387904) (hc : dupW y s = false → Ev (fun k => spec_leGood.l0 k l l (l.length : Int) (wrap64 ((j : Int) + 1))) r) : ∀ d i, i + d = y.length → dupW (y.take i) s = false → Ev (fun k => spec_leGood.l1 k l l (l.length : Int) (j : Int) y (y.length : Int) (i : Int) s n u) (if dupW (y.drop i) s then false else r) := by
 intro d
 induction d with
 | zero =>
  intro i hi h0
  refine Ev.succ ?_
  have h1 : ((i : Int) < (y.length : Int)) = False := eq_false (by omega)
  rw [List.take_of_length_le (by omega)] at h0
  simp only [spec_leGood.l1, h1, if_false]
  rw [List.drop_of_length_le (by omega)]
  exact hc h0
 | succ d ih =>
  intro i hi h0
  refine Ev.succ ?_
  have hlt : i < y.length := by omega
  have h1 : ((i : Int) < (y.length : Int)) = True := eq_true (by omega)
  simp only [spec_leGood.l1, h1, if_true, nat_nonneg, rdw, wrap_succ (show i < 4611686018427387904 by omega)]
  have hdup : dupW (y.drop i) s = (decide (y[i].f0.toList = s.toList) || dupW (y.drop (i + 1)) s) := by rw [List.drop_eq_getElem_cons hlt]; unfold dupW; rw [List.any_cons]
  rw [hdup, wat_get y i hlt]
  by_cases h2 : y[i].f0.toList = s.toList
  ·simp only [eq_true h2, if_true, decide_true, Bool.true_or]
   exact Ev.now _
  ·simp only [eq_false h2, if_false, decide_false, Bool.false_or]
   refine ih (i + 1) (by omega) ?_
   rw [List.take_succ_eq_append_getElem hlt]
   unfold dupW at h0 ⊢
   rw [List.any_append, h0]
   simp [h2]
theorem leGood_j1 (l : List S62) (j : Nat) (b : Bool) (r : Bool) (s : ByteArray) (n : List Int) (u : Int) (hl : l.length ≤ 1048576) (hj : j < l.length) (hc : b = false → dupW (l.take j) s = false → Ev (fun k => spec_leGood.l0 k l l (l.length : Int) (wrap64 ((j : Int) + 1))) r) : Ev (fun k => spec_leGood.j1 k l (j : Int) l (l.length : Int) (j : Int) b s n u) (if b || dupW (l.take j) s then false else r) := by
 refine Ev.succ ?_
 cases b with
 | true =>
  simp only [spec_leGood.j1, if_true]
  exact Ev.now _
 | false =>
  have h2 : ((j : Int) ≤ (l.length : Int)) = True := eq_true (by omega)
  simp only [spec_leGood.j1, Bool.false_eq_true, if_false, nat_nonneg, h2, if_true, Option.bind_some, Int.toNat_natCast, Bool.false_or]
  have := leGood_l1 l (l.take j) j s n u r (by rw [List.length_take]; omega) (hc rfl) (l.take j).length 0 (by omega) (by simp [dupW])
  rw [List.drop_zero] at this
  exact this
theorem leGood_step (l : List S62) (j : Nat) (r : Bool) (hl : l.length ≤ 1048576) (hz : WSz l) (hj : j < l.length) (hc : goodAt l j = true → Ev (fun k => spec_leGood.l0 k l l (l.length : Int) ((j + 1 : Nat) : Int)) r) : Ev (fun k => spec_leGood.l0 k l l (l.length : Int) (j : Int)) (if goodAt l j then r else false) := by
 refine Ev.succ ?_
 have h1 : ((j : Int) < (l.length : Int)) = True := eq_true (by omega)
 obtain ⟨z1, z0⟩ := wsz_at hz hj
 rw [← wrap_succ (show j < 4611686018427387904 by omega)] at hc
 simp only [spec_leGood.l0, h1, if_true, nat_nonneg, rdw]
 refine Ev.bind (enGloss_ev _ (by omega)) ?_
 cases hg : glossB (wat l j).f0 with
 | false =>
  have e : goodAt l j = false := by unfold goodAt; rw [hg, Bool.false_and]
  rw [e]
  simp only [Bool.false_eq_true, if_false]
  exact Ev.eq (leGood_j1 l j true r _ _ _ hl hj (fun h => nomatch h)) rfl
 | true =>
  simp only [if_true]
  refine Ev.bind (l1Rising_ev _ _ _ (by omega)) ?_
  change Ev (fun k => if riseB (wat l j).f1 0 (topW l) = true then _ else _) _
  cases hr : riseB (wat l j).f1 0 (topW l) with
  | false =>
   have e : goodAt l j = false := by unfold goodAt; rw [hg, hr, Bool.false_and, Bool.and_false]
   rw [e]
   simp only [Bool.false_eq_true, if_false]
   exact Ev.eq (leGood_j1 l j true r _ _ _ hl hj (fun h => nomatch h)) rfl
  | true =>
   simp only [if_true]
   refine Ev.bind (l1Has_ev _ _ (by omega)) ?_
   cases hh : decide ((j : Int) ∈ (wat l j).f1) with
   | true =>
    have e : goodAt l j = false := by unfold goodAt; rw [hg, hr, hh]; rfl
    rw [e]
    simp only [if_true]
    exact Ev.eq (leGood_j1 l j true r _ _ _ hl hj (fun h => nomatch h)) rfl
   | false =>
    simp only [Bool.false_eq_true, if_false, l1In_eq, Option.bind_some]
    cases hi : inB (wat l j).f2 0 99999 with
    | false =>
     have e : goodAt l j = false := by unfold goodAt; rw [hg, hr, hh, hi]; rfl
     rw [e]
     exact Ev.eq (leGood_j1 l j true r _ _ _ hl hj (fun h => nomatch h)) rfl
    | true =>
     have e : goodAt l j = !(dupW (l.take j) (wat l j).f0) := by unfold goodAt; rw [hg, hr, hh, hi]; rfl
     rw [e] at hc ⊢
     refine Ev.eq (leGood_j1 l j false r _ _ _ hl hj (fun _ h => hc (by rw [h]; rfl))) ?_
     cases dupW (l.take j) (wat l j).f0 <;> rfl
theorem leGood_ev (l : List S62) (hl : l.length ≤ 1048576) (hz : WSz l) : Ev (fun k => spec_leGood.f k l) (wordsB l) := by
 unfold spec_leGood.f wordsB
 refine Ev.eq (Ev.all0 (L := fun k j => spec_leGood.l0 k l l (l.length : Int) (j : Int)) (P := goodAt l) (n := l.length) (a := decide (l.length ≤ 16)) (b := false) ?_ ?_ ?_) (by cases (List.range l.length).all (goodAt l) <;> simp)
 ·refine Ev.succ ?_
  simp only [spec_leGood.l0, Int.lt_irrefl, if_false]
  refine Ev.eq (Ev.now _) ?_
  rw [decide_eq_decide]
  omega
 ·intro j r hj hP h
  have := leGood_step l j r hl hz hj (fun _ => h)
  rw [hP, if_pos rfl] at this
  exact this
 ·intro j hj hP
  have := leGood_step l j false hl hz hj (fun h => by rw [hP] at h; cases h)
  rw [hP] at this
  exact this
theorem areWords_j2 (l : List S62) (j : Nat) (b : Bool) (r : Bool) (s : ByteArray) (n : List Int) (u : Int) (hj : j < l.length) (hc : b = false → dupW (l.take j) s = false → Ev (fun k => impl_AreWords.l0 k l l (l.length : Int) (wrap64 ((j : Int) + 1))) r) : Ev (fun k => impl_AreWords.j2 k l (j : Int) l (l.length : Int) (j : Int) b s n u) (if b || dupW (l.take j) s then false else r) := by
 refine Ev.succ ?_
 cases b with
 | true =>
  simp only [impl_AreWords.j2, if_true]
  exact Ev.now _
 | false =>
  have h2 : ((j : Int) ≤ (l.length : Int)) = True := eq_true (by omega)
  simp only [impl_AreWords.j2, Bool.false_eq_true, if_false, nat_nonneg, h2, if_true, Option.bind_some, Int.toNat_natCast, Bool.false_or, slices_ContainsFunc_impl_Word.f]
  change Ev (fun k => if dupW (l.take j) s = true then _ else _) _
  cases h3 : dupW (l.take j) s with
  | true => simp only [if_true]; exact Ev.now _
  | false => simp only [Bool.false_eq_true, if_false]; exact hc rfl h3
theorem areWords_j1 (l : List S62) (j : Nat) (b : Bool) (r : Bool) (s : ByteArray) (n : List Int) (u : Int) (hn : n.length ≤ 1048576) (hj : j < l.length) (hc : b = false → (decide n.Nodup && sortB n) = true → dupW (l.take j) s = false → Ev (fun k => impl_AreWords.l0 k l l (l.length : Int) (wrap64 ((j : Int) + 1))) r) : Ev (fun k => impl_AreWords.j1 k l (j : Int) l (l.length : Int) (j : Int) b s n u) (if b || (!(decide n.Nodup && sortB n) || dupW (l.take j) s) then false else r) := by
 refine Ev.succ ?_
 cases b with
 | true =>
  simp only [impl_AreWords.j1, if_true]
  exact Ev.now _
 | false =>
  obtain ⟨t, ht, hd⟩ := distinct_len n (by omega)
  simp only [impl_AreWords.j1, Bool.false_eq_true, if_false, ht, Option.bind_some, Bool.false_or]
  by_cases h3 : n.Nodup
  ·have h4 : ((t.length : Int) = (n.length : Int)) = True := eq_true (by have := hd.2 h3; omega)
   simp only [h4, if_true]
   refine Ev.bind (isSorted_ev n (by omega)) ?_
   refine Ev.eq (areWords_j2 l j (!sortB n) r s n u hj (fun h => hc rfl (by simp [h3]; simpa using h))) ?_
   simp [h3]
  ·have h4 : ((t.length : Int) = (n.length : Int)) = False := eq_false (fun e => h3 (hd.1 (by omega)))
   simp only [h4, if_false]
   refine Ev.eq (areWords_j2 l j true r s n u hj (fun h => nomatch h)) ?_
   simp [h3]
theorem areWords_step (l : List S62) (j : Nat) (r : Bool) (hz : WSz l) (hj : j < l.length) (hl : l.length ≤ 1048576) (hc : goodAt l j = true → Ev (fun k => impl_AreWords.l0 k l l (l.length : Int) ((j + 1 : Nat) : Int)) r) : Ev (fun k => impl_AreWords.l0 k l l (l.length : Int) (j : Int)) (if goodAt l j then r else false) := by
 refine Ev.succ ?_
 have h1 : ((j : Int) < (l.length : Int)) = True := eq_true (by omega)
 obtain ⟨z1, z0⟩ := wsz_at hz hj
 rw [← wrap_succ (show j < 4611686018427387904 by omega)] at hc
 simp only [impl_AreWords.l0, h1, if_true, nat_nonneg, rdw, impl_allWithin.f, within_eq, Option.bind_some]
 refine Ev.bind (isGloss_ev _ (by omega)) ?_
 have hE : goodAt l j = (glossB (wat l j).f0 && (((wat l j).f1.all (fun x => decide (0 ≤ x ∧ x ≤ topW l)) && (decide (wat l j).f1.Nodup && sortB (wat l j).f1)) && (!(decide ((j : Int) ∈ (wat l j).f1)) && (inB (wat l j).f2 0 99999 && !(dupW (l.take j) (wat l j).f0))))) := by unfold goodAt; rw [rise_eq]
 change Ev (fun k => if glossB (wat l j).f0 = true then (if inB (wat l j).f2 0 99999 = true then (if ((wat l j).f1.all fun x => decide (0 ≤ x ∧ x ≤ topW l)) = true then _ else _) else _) else _) _
 cases hg : glossB (wat l j).f0 with
 | false =>
  have e : goodAt l j = false := by rw [hE, hg, Bool.false_and]
  rw [e]
  simp only [Bool.false_eq_true, if_false]
  exact Ev.eq (areWords_j1 l j true r _ _ _ z1 hj (fun h => nomatch h)) rfl
 | true =>
  simp only [if_true]
  cases hi : inB (wat l j).f2 0 99999 with
  | false =>
   have e : goodAt l j = false := by rw [hE, hi, Bool.false_and, Bool.and_false, Bool.and_false, Bool.and_false]
   rw [e]
   simp only [Bool.false_eq_true, if_false]
   exact Ev.eq (areWords_j1 l j true r _ _ _ z1 hj (fun h => nomatch h)) rfl
  | true =>
   simp only [if_true]
   cases hw : ((wat l j).f1.all fun x => decide (0 ≤ x ∧ x ≤ topW l)) with
   | false =>
    have e : goodAt l j = false := by rw [hE, hw, Bool.false_and, Bool.false_and, Bool.and_false]
    rw [e]
    simp only [Bool.false_eq_true, if_false]
    exact Ev.eq (areWords_j1 l j true r _ _ _ z1 hj (fun h => nomatch h)) rfl
   | true =>
    simp only [if_true]
    refine Ev.bind (contains_ev _ _ (by omega)) ?_
    rw [hE, hg, hi, hw] at hc
    rw [hE, hg, hi, hw]
    refine Ev.eq (areWords_j1 l j _ r _ _ _ z1 hj (fun h1 h2 h3 => hc (by rw [h1, h2, h3]; rfl))) ?_
    cases decide ((j : Int) ∈ (wat l j).f1) <;> cases (decide (wat l j).f1.Nodup && sortB (wat l j).f1) <;> cases dupW (l.take j) (wat l j).f0 <;> rfl
theorem areWords_ev (l : List S62) (hl : l.length ≤ 1048576) (hz : WSz l) : Ev (fun k => impl_AreWords.f k l) (wordsB l) := by
 unfold impl_AreWords.f wordsB
 refine Ev.eq (Ev.all0 (L := fun k j => impl_AreWords.l0 k l l (l.length : Int) (j : Int)) (P := goodAt l) (n := l.length) (a := decide (l.length ≤ 16)) (b := false) ?_ ?_ ?_) (by cases (List.range l.length).all (goodAt l) <;> simp)
 ·refine Ev.succ ?_
  simp only [impl_AreWords.l0, Int.lt_irrefl, if_false]
  refine Ev.eq (Ev.now _) ?_
  rw [decide_eq_decide]
  omega
 ·intro j r hj hP h
  have := areWords_step l j r hz hj hl (fun _ => h)
  rw [hP, if_pos rfl] at this
  exact this
 ·intro j hj hP
  have := areWords_step l j false hz hj hl (fun h => by rw [hP] at h; cases h)
  rw [hP] at this
  exact this
theorem anyO_ev {α : Type} {p : Nat → α → Option Bool} {f : α → Bool} : ∀ {l : List α}, (∀ x, x ∈ l → Ev (fun k => p k x) (f x)) → Ev (fun k => Go.Proofs.YtnafjfdalapegaaGreatW.GIdx.anyO (p k) l) (l.any f)
 | [], _ => Ev.now _
 | x :: l, h => by
  unfold Go.Proofs.YtnafjfdalapegaaGreatW.GIdx.anyO
  refine Ev.bind (h x (List.mem_cons_self ..)) ?_
  rw [List.any_cons]
  cases f x with
  | true => exact Ev.now _
  | false => simpa using anyO_ev (l := l) fun y hy => h y (List.mem_cons_of_mem _ hy)
theorem ev_map {α β : Type} {g : Nat → Option α} {r : α} (h : Ev g r) (f : α → β) : Ev (fun k => (g k).map f) (f r) := by
 obtain ⟨K, h⟩ := h
 exact ⟨K, fun k hk => by show (g k).map f = some (f r); rw [h k hk]; rfl⟩
theorem any_not {α : Type} (l : List α) (f : α → Bool) : (!l.any fun x => !f x) = l.all f := by
 induction l with
 | nil => rfl
 | cons x l ih => rw [List.any_cons, List.all_cons, ← ih, Bool.not_or, Bool.not_not]
theorem allO_ev {α : Type} {p : Nat → α → Option Bool} {f : α → Bool} {l : List α} (h : ∀ x, x ∈ l → Ev (fun k => p k x) (f x)) : Ev (fun k => Go.Proofs.YtnafjfdalapegaaGreatW.GIdx.allO (p k) l) (l.all f) := by
 unfold Go.Proofs.YtnafjfdalapegaaGreatW.GIdx.allO
 have h1 := anyO_ev (p := fun k x => (p k x).map (!·)) (f := fun x => !f x) (l := l) (fun x hx => ev_map (h x hx) _)
 have h2 := ev_map h1 (fun b => !b)
 rw [any_not] at h2
 exact h2
theorem rdLx (l : List (List Int)) (j : Nat) : rd_L2 l (j : Int) = l.getD j [] := by simp [rd_L2]
theorem getL (l : List (List Int)) (j : Nat) (h : j < l.length) : l.getD j [] = l[j] := by rw [List.getD_eq_getElem?_getD, List.getElem?_eq_getElem h]; rfl
theorem flatLe {l : List (List Int)} {y : List Int} (h : y ∈ l) : y.length ≤ l.flatten.length := by
 obtain ⟨a, b, rfl⟩ := List.append_of_mem h
 rw [List.flatten_append, List.flatten_cons, List.length_append, List.length_append]
 omega
theorem takeFlat (l : List (List Int)) (n : Nat) : (l.take n).flatten.length ≤ l.flatten.length := by
 have : l.flatten.length = (l.take n).flatten.length + (l.drop n).flatten.length := by
  rw [← List.length_append, ← List.flatten_append, List.take_append_drop]
 omega
theorem dropFlat (l : List (List Int)) (n : Nat) (h : n < l.length) : (l.drop n).flatten = l[n] ++ (l.drop (n + 1)).flatten := by rw [List.drop_eq_getElem_cons h, List.flatten_cons]
theorem takeFlatSucc (l : List (List Int)) (n : Nat) (h : n < l.length) : (l.take (n + 1)).flatten = (l.take n).flatten ++ l[n] := by rw [List.take_succ_eq_append_getElem h, List.flatten_append]; simp
theorem topW_eq (l : List S62) (hl : l.length ≤ 1048576) : topW l = (l.length : Int) - 1 := by
 unfold topW
 rw [wrap_id (by omega) (by omega)]
/-! lists, one behind the other -/
theorem concat_l1 (ls : List (List Int)) (hs : ls.flatten.length ≤ 1048576) (hl : ls.length ≤ 1048576) : ∀ d n, n + d = ls.length → Ev (fun k => slices_Concat_int.l1 k (ls.take n).flatten ls (ls.length : Int) (n : Int)) ls.flatten := by
 intro d
 induction d with
 | zero =>
  intro n hn
  refine Ev.succ ?_
  have h1 : ((n : Int) < (ls.length : Int)) = False := eq_false (by omega)
  simp only [slices_Concat_int.l1, h1, if_false]
  rw [List.take_of_length_le (by omega)]
  exact Ev.now _
 | succ d ih =>
  intro n hn
  refine Ev.succ ?_
  have hlt : n < ls.length := by omega
  have h1 : ((n : Int) < (ls.length : Int)) = True := eq_true (by omega)
  have hy := flatLe (List.getElem_mem hlt)
  have ht := takeFlat ls n
  have h2 : ((ls.take n).flatten.length + ls[n].length < 17592186044416) = True := eq_true (by omega)
  simp only [slices_Concat_int.l1, h1, if_true, nat_nonneg, rdLx, getL ls n hlt, h2, wrap_succ (show n < 4611686018427387904 by omega)]
  rw [← takeFlatSucc ls n hlt]
  exact ih (n + 1) (by omega)
theorem concat_l0 (ls : List (List Int)) (hs : ls.flatten.length ≤ 1048576) (hl : ls.length ≤ 1048576) : ∀ d n, n + d = ls.length → Ev (fun k => slices_Concat_int.l0 k ls ((ls.take n).flatten.length : Int) ls (ls.length : Int) (n : Int)) ls.flatten := by
 intro d
 induction d with
 | zero =>
  intro n hn
  refine Ev.succ ?_
  have h1 : ((n : Int) < (ls.length : Int)) = False := eq_false (by omega)
  have ht := takeFlat ls n
  simp only [slices_Concat_int.l0, h1, if_false, slices_Grow_int.f, nat_nonneg, if_true, show (((ls.take n).flatten.length : Int) < 17592186044416) = True from eq_true (by omega), Option.bind_some]
  exact concat_l1 ls hs hl ls.length 0 (by omega)
 | succ d ih =>
  intro n hn
  refine Ev.succ ?_
  have hlt : n < ls.length := by omega
  have h1 : ((n : Int) < (ls.length : Int)) = True := eq_true (by omega)
  have hy := flatLe (List.getElem_mem hlt)
  have ht := takeFlat ls n
  have e : wrap64 (((ls.take n).flatten.length : Int) + (ls[n].length : Int)) = ((ls.take (n + 1)).flatten.length : Int) := by
   rw [wrap_id (by omega) (by omega), takeFlatSucc ls n hlt, List.length_append]
   omega
  have h2 : (((ls.take (n + 1)).flatten.length : Int) < 0) = False := eq_false (by omega)
  simp only [slices_Concat_int.l0, h1, if_true, nat_nonneg, rdLx, getL ls n hlt, e, h2, if_false, wrap_succ (show n < 4611686018427387904 by omega)]
  exact ih (n + 1) (by omega)
theorem concat_ev (ls : List (List Int)) (hs : ls.flatten.length ≤ 1048576) (hl : ls.length ≤ 1048576) : Ev (fun k => slices_Concat_int.f k ls) ls.flatten := by
 unfold slices_Concat_int.f
 exact concat_l0 ls hs hl ls.length 0 (by omega)
/-! what a word needs -/
def readyB (l : List S62) (done : List Int) (i : Int) : Bool := (wat l i.toNat).f1.all fun x => decide (x ∈ done)
theorem rdwI (l : List S62) (i : Int) : rd_T62 l i = wat l i.toNat := rfl
theorem all_range (l : List Int) (p : Int → Bool) : (List.range l.length).all (fun j => p (l.getD j 0)) = l.all p := by
 have hg : ∀ i (hi : i < l.length), l.getD i 0 = l[i] := fun i hi => by rw [List.getD_eq_getElem?_getD, List.getElem?_eq_getElem hi]; rfl
 rw [Bool.eq_iff_iff, List.all_eq_true, List.all_eq_true]
 constructor
 ·intro h x hx
  obtain ⟨i, hi, rfl⟩ := List.getElem_of_mem hx
  have := h i (List.mem_range.2 hi)
  rwa [hg i hi] at this
 ·intro h j hj
  rw [hg j (List.mem_range.1 hj)]
  exact h _ (List.getElem_mem _)
theorem leReady_ev (l : List S62) (done : List Int) (i : Int) (hz : WSz l) (hd : done.length ≤ 1048576) (h0 : 0 ≤ i) (h1 : i < l.length) : Ev (fun k => spec_leReady.f k l done i) (readyB l done i) := by
 unfold spec_leReady.f readyB
 have hn := (wsz_at hz (show i.toNat < l.length by omega)).1
 simp only [eq_true h0, eq_true h1, if_true, rdwI]
 generalize (wat l i.toNat).f1 = n at hn
 refine Ev.eq (Ev.all0 (L := fun k j => spec_leReady.l0 k done n (n.length : Int) (j : Int)) (P := fun j => decide (n.getD j 0 ∈ done)) (n := n.length) (a := true) (b := false) ?_ ?_ ?_) (by rw [all_range n (fun x => decide (x ∈ done))]; cases n.all fun x => decide (x ∈ done) <;> rfl)
 ·refine Ev.succ ?_
  simp only [spec_leReady.l0, Int.lt_irrefl, if_false]
  exact Ev.now _
 ·intro j r hj hP h
  refine Ev.succ ?_
  have h1 : ((j : Int) < (n.length : Int)) = True := eq_true (by omega)
  simp only [spec_leReady.l0, h1, if_true, nat_nonneg, rdJ, wrap_succ (show j < 4611686018427387904 by omega)]
  refine Ev.bind (l1Has_ev _ _ (by omega)) ?_
  simp only [hP, if_true]
  exact h
 ·intro j hj hP
  refine Ev.succ ?_
  have h1 : ((j : Int) < (n.length : Int)) = True := eq_true (by omega)
  simp only [spec_leReady.l0, h1, if_true, nat_nonneg, rdJ]
  refine Ev.bind (l1Has_ev _ _ (by omega)) ?_
  simp only [hP, Bool.false_eq_true, if_false]
  exact Ev.now _
theorem hasNeeds_ev (w : S62) (done : List Int) (hd : done.length ≤ 1048576) : Ev (fun k => impl_hasNeeds.f k w.f0 w.f1 w.f2 done) (w.f1.all fun x => decide (x ∈ done)) := by
 unfold impl_hasNeeds.f impl_hasNeeds_1.f impl_allOf_int.f
 exact Ev.bind (allO_ev (fun x _ => contains_ev done x (by omega))) (Ev.now _)
theorem areLessons1_ev (l : List S62) (y done : List Int) (hd : done.length ≤ 1048576) (hy : ∀ x, x ∈ y → 0 ≤ x ∧ x < l.length) : Ev (fun k => impl_areLessons_1.f k y l done) (y.all (readyB l done)) := by
 unfold impl_areLessons_1.f impl_allOf_int.f
 refine allO_ev (fun x hx => ?_)
 obtain ⟨h0, h1⟩ := hy x hx
 simp only [eq_true h0, eq_true h1, if_true, rdwI]
 exact hasNeeds_ev (wat l x.toNat) done hd
/-! lists of good indices, none of them twice -/
def okFrom (l : List S62) : List Int → List Int → Bool
 | _, [] => true
 | acc, x :: t => inB x 0 (topW l) && (!(decide (x ∈ acc)) && okFrom l (acc ++ [x]) t)
theorem okFrom_append (l : List S62) : ∀ (a b acc : List Int), okFrom l acc (a ++ b) = (okFrom l acc a && okFrom l (acc ++ a) b)
 | [], b, acc => by simp [okFrom]
 | x :: a, b, acc => by
  show (inB x 0 (topW l) && (!(decide (x ∈ acc)) && okFrom l (acc ++ [x]) (a ++ b))) = ((inB x 0 (topW l) && (!(decide (x ∈ acc)) && okFrom l (acc ++ [x]) a)) && okFrom l (acc ++ x :: a) b)
  rw [okFrom_append l a b (acc ++ [x]), List.append_assoc, List.singleton_append, Bool.and_assoc, Bool.and_assoc]
theorem okFrom_iff (l : List S62) : ∀ (t acc : List Int), okFrom l acc t = true ↔ (∀ x, x ∈ t → 0 ≤ x ∧ x ≤ topW l) ∧ t.Nodup ∧ ∀ x, x ∈ t → x ∉ acc
 | [], acc => by simp [okFrom]
 | x :: t, acc => by
  unfold okFrom inB
  rw [Bool.and_eq_true, Bool.and_eq_true, okFrom_iff l t (acc ++ [x]), decide_eq_true_eq, Bool.not_eq_true', decide_eq_false_iff_not, List.nodup_cons]
  constructor
  ·rintro ⟨h1, h2, h3, h4, h5⟩
   refine ⟨fun z hz => ?_, ⟨fun hx => ?_, h4⟩, fun z hz => ?_⟩
   ·rcases List.mem_cons.1 hz with rfl | hz
    ·exact h1
    ·exact h3 z hz
   ·exact h5 x hx (by simp)
   ·rcases List.mem_cons.1 hz with rfl | hz
    ·exact h2
    ·exact fun h => h5 z hz (by simp [h])
  ·rintro ⟨h1, ⟨h2, h3⟩, h4⟩
   refine ⟨h1 x (List.mem_cons_self ..), h4 x (List.mem_cons_self ..), fun z hz => h1 z (List.mem_cons_of_mem _ hz), h3, fun z hz h => ?_⟩
   rcases List.mem_append.1 h with h | h
   ·exact h4 z (List.mem_cons_of_mem _ hz) h
   ·rw [List.mem_singleton] at h
    subst h
    exact h2 hz
theorem okFrom_flat (l : List S62) (t : List Int) : okFrom l [] t = (t.all (fun x => decide (0 ≤ x ∧ x ≤ topW l)) && decide t.Nodup) := by
 rw [Bool.eq_iff_iff, okFrom_iff, Bool.and_eq_true, List.all_eq_true, decide_eq_true_eq]
 constructor
 ·rintro ⟨h1, h2, _⟩
  exact ⟨fun x hx => decide_eq_true (h1 x hx), h2⟩
 ·rintro ⟨h1, h2⟩
  exact ⟨fun x hx => of_decide_eq_true (h1 x hx), h2, fun x _ h => nomatch h⟩
theorem leFair_l1 (l : List S62) (ls : List (List Int)) (n : Nat) (y : List Int) (r : Bool) (hy : y.length ≤ 1048576) : ∀ d i (acc : List Int), i + d = y.length → acc.length + d ≤ 1048576 → Ev (fun k => spec_leFair.l0 k l ls (acc ++ y.drop i) ls (ls.length : Int) (wrap64 ((n : Int) + 1))) r → Ev (fun k => spec_leFair.l1 k l ls acc ls (ls.length : Int) (n : Int) y (y.length : Int) (i : Int)) (if okFrom l acc (y.drop i) then r else false) := by
 intro d
 induction d with
 | zero =>
  intro i acc hi ha hc
  refine Ev.succ ?_
  have h1 : ((i : Int) < (y.length : Int)) = False := eq_false (by omega)
  rw [List.drop_of_length_le (by omega), List.append_nil] at hc
  rw [List.drop_of_length_le (by omega)]
  simp only [spec_leFair.l1, h1, if_false, okFrom, if_true]
  exact hc
 | succ d ih =>
  intro i acc hi ha hc
  refine Ev.succ ?_
  have hlt : i < y.length := by omega
  have h1 : ((i : Int) < (y.length : Int)) = True := eq_true (by omega)
  have hg : y.getD i 0 = y[i] := by rw [List.getD_eq_getElem?_getD, List.getElem?_eq_getElem hlt]; rfl
  have h2 : (acc.length < 17592186044416) = True := eq_true (by omega)
  have e : okFrom l acc (y.drop i) = (inB y[i] 0 (topW l) && (!(decide (y[i] ∈ acc)) && okFrom l (acc ++ [y[i]]) (y.drop (i + 1)))) := by rw [List.drop_eq_getElem_cons hlt]; rfl
  rw [e]
  simp only [spec_leFair.l1, h1, if_true, nat_nonneg, rdJ, hg, l1In_eq, Option.bind_some, h2, wrap_succ (show i < 4611686018427387904 by omega)]
  change Ev (fun k => if inB y[i] 0 (topW l) = true then _ else _) _
  cases inB y[i] 0 (topW l) with
  | false =>
   simp only [Bool.false_eq_true, if_false, Bool.false_and]
   exact Ev.now _
  | true =>
   simp only [if_true, Bool.true_and]
   refine Ev.bind (l1Has_ev _ _ (by omega)) ?_
   cases decide (y[i] ∈ acc) with
   | true =>
    simp only [if_true, Bool.not_true, Bool.false_and, Bool.false_eq_true, if_false]
    exact Ev.now _
   | false =>
    simp only [Bool.false_eq_true, if_false, Bool.not_false, Bool.true_and]
    refine ih (i + 1) (acc ++ [y[i]]) (by omega) (by rw [List.length_append]; simp; omega) ?_
    rw [List.append_assoc, List.singleton_append, ← List.drop_eq_getElem_cons hlt]
    exact hc
theorem leFair_l0 (l : List S62) (ls : List (List Int)) (hs : ls.flatten.length ≤ 1048576) (hl : ls.length ≤ 1048576) : ∀ d n, n + d = ls.length → Ev (fun k => spec_leFair.l0 k l ls (ls.take n).flatten ls (ls.length : Int) (n : Int)) (if okFrom l (ls.take n).flatten (ls.drop n).flatten then decide (ls.length ≤ 16) else false) := by
 intro d
 induction d with
 | zero =>
  intro n hn
  refine Ev.succ ?_
  have h1 : ((n : Int) < (ls.length : Int)) = False := eq_false (by omega)
  rw [List.drop_of_length_le (by omega)]
  simp only [spec_leFair.l0, h1, if_false, List.flatten_nil, okFrom, if_true]
  refine Ev.eq (Ev.now _) ?_
  rw [decide_eq_decide]
  omega
 | succ d ih =>
  intro n hn
  refine Ev.succ ?_
  have hlt : n < ls.length := by omega
  have h1 : ((n : Int) < (ls.length : Int)) = True := eq_true (by omega)
  have hy := flatLe (List.getElem_mem hlt)
  have ht : (ls.take (n + 1)).flatten.length ≤ ls.flatten.length := takeFlat ls (n + 1)
  rw [takeFlatSucc ls n hlt, List.length_append] at ht
  simp only [spec_leFair.l0, h1, if_true, nat_nonneg, rdLx, getL ls n hlt]
  have h2 := ih (n + 1) (by omega)
  rw [takeFlatSucc ls n hlt] at h2
  have h3 := leFair_l1 l ls n ls[n] _ (by omega) ls[n].length 0 (ls.take n).flatten (by omega) (by omega) (by rw [List.drop_zero, wrap_succ (show n < 4611686018427387904 by omega)]; exact h2)
  rw [List.drop_zero] at h3
  refine Ev.eq h3 ?_
  rw [dropFlat ls n hlt, okFrom_append]
  cases okFrom l (ls.take n).flatten ls[n] <;> simp
def fairB (l : List S62) (ls : List (List Int)) : Bool := okFrom l [] ls.flatten && decide (ls.length ≤ 16)
theorem leFair_ev (l : List S62) (ls : List (List Int)) (hs : ls.flatten.length ≤ 1048576) (hl : ls.length ≤ 1048576) : Ev (fun k => spec_leFair.f k l ls) (fairB l ls) := by
 unfold spec_leFair.f fairB
 have := leFair_l0 l ls hs hl ls.length 0 (by omega)
 refine Ev.eq this ?_
 rw [List.take_zero, List.drop_zero, List.flatten_nil]
 cases okFrom l [] ls.flatten <;> simp
/-! the first word that is not ready -/
def unt (l : List S62) : List Int → Nat → List (List Int) → Int × Int
 | _, _, [] => (-1, -1)
 | done, n, y :: t => match y.find? (fun x => !readyB l done x) with
  | some x => ((n : Int), x)
  | none => unt l (done ++ y) (n + 1) t
theorem leUntaught_l1 (l : List S62) (ls : List (List Int)) (done y : List Int) (n : Nat) (r : Int × Int) (hz : WSz l) (hd : done.length + y.length ≤ 1048576) (hy : ∀ x, x ∈ y → 0 ≤ x ∧ x < l.length) (hc : Ev (fun k => spec_leUntaught.l0 k l (done ++ y) ls (ls.length : Int) (wrap64 ((n : Int) + 1))) r) : ∀ d i, i + d = y.length → Ev (fun k => spec_leUntaught.l1 k l done (n : Int) y ls (ls.length : Int) (n : Int) y (y.length : Int) (i : Int)) (match (y.drop i).find? (fun x => !readyB l done x) with | some x => ((n : Int), x) | none => r) := by
 intro d
 induction d with
 | zero =>
  intro i hi
  refine Ev.succ ?_
  have h1 : ((i : Int) < (y.length : Int)) = False := eq_false (by omega)
  have h2 : (done.length + y.length < 17592186044416) = True := eq_true (by omega)
  rw [List.drop_of_length_le (by omega)]
  simp only [spec_leUntaught.l1, h1, if_false, h2, if_true, List.find?_nil]
  exact hc
 | succ d ih =>
  intro i hi
  refine Ev.succ ?_
  have hlt : i < y.length := by omega
  have h1 : ((i : Int) < (y.length : Int)) = True := eq_true (by omega)
  have hg : y.getD i 0 = y[i] := by rw [List.getD_eq_getElem?_getD, List.getElem?_eq_getElem hlt]; rfl
  have hb := hy y[i] (List.getElem_mem hlt)
  rw [List.drop_eq_getElem_cons hlt, List.find?_cons]
  simp only [spec_leUntaught.l1, h1, if_true, nat_nonneg, rdJ, hg, wrap_succ (show i < 4611686018427387904 by omega)]
  refine Ev.bind (leReady_ev l done y[i] hz (by omega) hb.1 hb.2) ?_
  cases readyB l done y[i] with
  | true =>
   simp only [if_true, Bool.not_true]
   exact ih (i + 1) (by omega)
  | false =>
   simp only [Bool.false_eq_true, if_false, Bool.not_false]
   exact Ev.now _
theorem leUntaught_l0 (l : List S62) (ls : List (List Int)) (hz : WSz l) (hs : ls.flatten.length ≤ 1048576) (hl : ls.length ≤ 1048576) (hy : ∀ x, x ∈ ls.flatten → 0 ≤ x ∧ x < l.length) : ∀ d n, n + d = ls.length → Ev (fun k => spec_leUntaught.l0 k l (ls.take n).flatten ls (ls.length : Int) (n : Int)) (unt l (ls.take n).flatten n (ls.drop n)) := by
 intro d
 induction d with
 | zero =>
  intro n hn
  refine Ev.succ ?_
  have h1 : ((n : Int) < (ls.length : Int)) = False := eq_false (by omega)
  rw [List.drop_of_length_le (by omega)]
  simp only [spec_leUntaught.l0, h1, if_false, unt]
  exact Ev.now _
 | succ d ih =>
  intro n hn
  refine Ev.succ ?_
  have hlt : n < ls.length := by omega
  have h1 : ((n : Int) < (ls.length : Int)) = True := eq_true (by omega)
  have ht : (ls.take (n + 1)).flatten.length ≤ ls.flatten.length := takeFlat ls (n + 1)
  rw [takeFlatSucc ls n hlt, List.length_append] at ht
  simp only [spec_leUntaught.l0, h1, if_true, nat_nonneg, rdLx, getL ls n hlt]
  have h2 := ih (n + 1) (by omega)
  rw [takeFlatSucc ls n hlt] at h2
  have h3 := leUntaught_l1 l ls (ls.take n).flatten ls[n] n _ hz (by omega) (fun x hx => hy x (List.mem_flatten.2 ⟨_, List.getElem_mem hlt, hx⟩)) (by rw [wrap_succ (show n < 4611686018427387904 by omega)]; exact h2) ls[n].length 0 (by omega)
  rw [List.drop_zero] at h3
  rw [List.drop_eq_getElem_cons hlt]
  exact h3
theorem leUntaught_ev (l : List S62) (ls : List (List Int)) (hz : WSz l) (hs : ls.flatten.length ≤ 1048576) (hl : ls.length ≤ 1048576) (hy : ∀ x, x ∈ ls.flatten → 0 ≤ x ∧ x < l.length) : Ev (fun k => spec_leUntaught.f k l ls) (unt l [] 0 ls) := by
 unfold spec_leUntaught.f
 have := leUntaught_l0 l ls hz hs hl hy ls.length 0 (by omega)
 rwa [List.take_zero, List.drop_zero, List.flatten_nil] at this
/-! good lessons -/
def stepsB (l : List S62) : List Int → List (List Int) → Bool
 | _, [] => true
 | done, y :: t => decide (y.length ≠ 0) && (y.all (readyB l done) && stepsB l (done ++ y) t)
theorem find_all (y : List Int) (p : Int → Bool) : (y.find? (fun x => !p x) = none) ↔ y.all p = true := by
 rw [List.find?_eq_none, List.all_eq_true]
 simp
theorem steps_eq (l : List S62) : ∀ (ls : List (List Int)) (done : List Int) (n : Nat), stepsB l done ls = (ls.all (fun y => decide (y.length ≠ 0)) && decide ((unt l done n ls).1 < 0))
 | [], done, n => by simp [stepsB, unt]
 | y :: t, done, n => by
  unfold stepsB unt
  rw [List.all_cons, steps_eq l t (done ++ y) (n + 1)]
  cases hf : y.find? (fun x => !readyB l done x) with
  | none =>
   rw [(find_all y (readyB l done)).1 hf, Bool.true_and, Bool.and_assoc]
  | some x =>
   have : y.all (readyB l done) = false := by
    rw [← Bool.not_eq_true]
    intro h
    rw [(find_all y (readyB l done)).2 h] at hf
    cases hf
   rw [this, Bool.false_and, Bool.and_false]
   have h2 : ¬ ((n : Int) < 0) := by omega
   simp [h2]
def lessB (l : List S62) (ls : List (List Int)) : Bool := decide (ls.flatten.length = l.length) && (okFrom l [] ls.flatten && stepsB l [] ls)
theorem leAre_l0 (l : List S62) (ls : List (List Int)) (hl0 : l.length ≤ 1048576) (hz : WSz l) (hs : ls.flatten.length ≤ 1048576) (hl : ls.length ≤ 1048576) (hy : ∀ x, x ∈ ls.flatten → 0 ≤ x ∧ x < l.length) : ∀ d n, n + d = ls.length → Ev (fun k => spec_leAre.l0 k l ls ((ls.take n).flatten.length : Int) ls (ls.length : Int) (n : Int)) ((ls.drop n).all (fun y => decide (y.length ≠ 0)) && (decide (ls.flatten.length = l.length) && decide ((unt l [] 0 ls).1 < 0))) := by
 intro d
 induction d with
 | zero =>
  intro n hn
  refine Ev.succ ?_
  have h1 : ((n : Int) < (ls.length : Int)) = False := eq_false (by omega)
  rw [List.drop_of_length_le (by omega), List.take_of_length_le (by omega)]
  simp only [spec_leAre.l0, h1, if_false, List.all_nil, Bool.true_and]
  refine Ev.bind (leUntaught_ev l ls hz hs hl hy) ?_
  by_cases h2 : ls.flatten.length = l.length
  ·simp only [h2, if_true, decide_true, Bool.true_and]
   exact Ev.now _
  ·have h3 : ((ls.flatten.length : Int) = (l.length : Int)) = False := eq_false (by omega)
   simp only [h3, h2, if_false, decide_false, Bool.false_and]
   exact Ev.now _
 | succ d ih =>
  intro n hn
  refine Ev.succ ?_
  have hlt : n < ls.length := by omega
  have h1 : ((n : Int) < (ls.length : Int)) = True := eq_true (by omega)
  have hle := flatLe (List.getElem_mem hlt)
  have ht := takeFlat ls n
  rw [List.drop_eq_getElem_cons hlt, List.all_cons]
  have e : wrap64 (((ls.take n).flatten.length : Int) + (ls[n].length : Int)) = ((ls.take (n + 1)).flatten.length : Int) := by
   rw [wrap_id (by omega) (by omega), takeFlatSucc ls n hlt, List.length_append]
   omega
  by_cases h2 : ls[n].length = 0
  ·have h3 : ((ls[n].length : Int) = 0) = True := eq_true (by omega)
   simp only [spec_leAre.l0, h1, if_true, nat_nonneg, rdLx, getL ls n hlt, h3, h2, ne_eq, not_true_eq_false, decide_false, Bool.false_and]
   exact Ev.now _
  ·have h3 : ((ls[n].length : Int) = 0) = False := eq_false (by omega)
   simp only [spec_leAre.l0, h1, if_true, nat_nonneg, rdLx, getL ls n hlt, h3, if_false, e, wrap_succ (show n < 4611686018427387904 by omega), ne_eq, h2, not_false_eq_true, decide_true, Bool.true_and]
   exact ih (n + 1) (by omega)
theorem ok_range {l : List S62} {t : List Int} (hl0 : l.length ≤ 1048576) (h : okFrom l [] t = true) : ∀ x, x ∈ t → 0 ≤ x ∧ x < l.length := by
 intro x hx
 have := ((okFrom_iff l t []).1 h).1 x hx
 rw [topW_eq l hl0] at this
 omega
theorem leAre_ev (l : List S62) (ls : List (List Int)) (hl0 : l.length ≤ 1048576) (hz : WSz l) (hs : ls.flatten.length ≤ 1048576) (hl : ls.length ≤ 1048576) : Ev (fun k => spec_leAre.f k l ls) (decide (ls.length ≤ 16) && lessB l ls) := by
 unfold spec_leAre.f lessB
 refine Ev.bind (leFair_ev l ls hs hl) ?_
 unfold fairB
 rw [steps_eq l ls [] 0]
 cases h1 : okFrom l [] ls.flatten with
 | false =>
  simp only [Bool.false_and, Bool.and_false, Bool.false_eq_true, if_false]
  exact Ev.now _
 | true =>
  cases decide (ls.length ≤ 16) with
  | false =>
   simp only [Bool.false_and, Bool.and_false, Bool.false_eq_true, if_false]
   exact Ev.now _
  | true =>
   simp only [Bool.true_and, if_true]
   refine Ev.eq (leAre_l0 l ls hl0 hz hs hl (ok_range hl0 h1) ls.length 0 (by omega)) ?_
   rw [List.drop_zero]
   cases ls.all (fun y => decide (y.length ≠ 0)) <;> cases decide (ls.flatten.length = l.length) <;> rfl
theorem areLessons_l0 (l : List S62) (ls : List (List Int)) (hs : ls.flatten.length ≤ 1048576) (hl : ls.length ≤ 1048576) (hy : ∀ x, x ∈ ls.flatten → 0 ≤ x ∧ x < l.length) : ∀ d n, n + d = ls.length → Ev (fun k => impl_areLessons.l0 k ls ls (ls.length : Int) (n : Int) l) (stepsB l (ls.take n).flatten (ls.drop n)) := by
 intro d
 induction d with
 | zero =>
  intro n hn
  refine Ev.succ ?_
  have h1 : ((n : Int) < (ls.length : Int)) = False := eq_false (by omega)
  rw [List.drop_of_length_le (by omega)]
  simp only [impl_areLessons.l0, h1, if_false, stepsB]
  exact Ev.now _
 | succ d ih =>
  intro n hn
  refine Ev.succ ?_
  have hlt : n < ls.length := by omega
  have h1 : ((n : Int) < (ls.length : Int)) = True := eq_true (by omega)
  have h2 : ((n : Int) ≤ (ls.length : Int)) = True := eq_true (by omega)
  have ht := takeFlat ls n
  simp only [impl_areLessons.l0, h1, h2, if_true, nat_nonneg, rdLx, getL ls n hlt, Int.toNat_natCast, wrap_succ (show n < 4611686018427387904 by omega)]
  refine Ev.bind (concat_ev (ls.take n) (by omega) (by rw [List.length_take]; omega)) ?_
  have e : stepsB l (ls.take n).flatten (ls.drop n) = (decide (ls[n].length ≠ 0) && (ls[n].all (readyB l (ls.take n).flatten) && stepsB l ((ls.take n).flatten ++ ls[n]) (ls.drop (n + 1)))) := by rw [List.drop_eq_getElem_cons hlt]; rfl
  rw [e]
  by_cases h3 : ls[n].length = 0
  ·have h4 : ((ls[n].length : Int) = 0) = True := eq_true (by omega)
   simp only [h4, if_true, h3, ne_eq, not_true_eq_false, decide_false, Bool.false_and]
   exact Ev.now _
  ·have h4 : ((ls[n].length : Int) = 0) = False := eq_false (by omega)
   simp only [h4, if_false, h3, ne_eq, not_false_eq_true, decide_true, Bool.true_and]
   refine Ev.bind (areLessons1_ev l ls[n] (ls.take n).flatten (by omega) (fun x hx => hy x (List.mem_flatten.2 ⟨_, List.getElem_mem hlt, hx⟩))) ?_
   cases ls[n].all (readyB l (ls.take n).flatten) with
   | true =>
    simp only [if_true, Bool.true_and]
    rw [← takeFlatSucc ls n hlt]
    exact ih (n + 1) (by omega)
   | false =>
    simp only [Bool.false_eq_true, if_false, Bool.false_and]
    exact Ev.now _
theorem areLessons_ev (l : List S62) (ls : List (List Int)) (hl0 : l.length ≤ 1048576) (hs : ls.flatten.length ≤ 1048576) (hl : ls.length ≤ 1048576) : Ev (fun k => impl_areLessons.f k l ls) (lessB l ls) := by
 unfold impl_areLessons.f lessB
 refine Ev.bind (concat_ev ls hs hl) ?_
 by_cases h1 : ls.flatten.length = l.length
 ·have h2 : ((ls.flatten.length : Int) = (l.length : Int)) = True := eq_true (by omega)
  simp only [h2, h1, if_true, decide_true, Bool.true_and, impl_allWithin.f, Option.bind_some]
  have ho := okFrom_flat l ls.flatten
  change Ev (fun k => if (ls.flatten.all fun x => decide (0 ≤ x ∧ x ≤ topW l)) = true then _ else _) _
  cases h3 : (ls.flatten.all fun x => decide (0 ≤ x ∧ x ≤ topW l)) with
  | false =>
   rw [h3, Bool.false_and] at ho
   rw [ho]
   simp only [Bool.false_eq_true, if_false, Bool.false_and]
   refine Ev.succ ?_
   simp only [impl_areLessons.j0, if_true]
   exact Ev.now _
  | true =>
   rw [h3, Bool.true_and] at ho
   simp only [if_true]
   obtain ⟨t, ht, hd⟩ := distinct_len ls.flatten (by omega)
   simp only [ht, Option.bind_some]
   refine Ev.succ ?_
   by_cases h4 : ls.flatten.Nodup
   ·have h5 : (((t.length : Int)) != ((ls.flatten.length : Int))) = false := by have := hd.2 h4; simp [this]
    rw [decide_eq_true h4] at ho
    rw [ho]
    rw [h1] at h5
    simp only [impl_areLessons.j0, h5, Bool.false_eq_true, if_false, Bool.true_and]
    exact areLessons_l0 l ls hs hl (ok_range hl0 ho) ls.length 0 (by omega)
   ·have h5 : (((t.length : Int)) != ((ls.flatten.length : Int))) = true := by
     have : t.length ≠ ls.flatten.length := fun e => h4 (hd.1 e)
     rw [bne_iff_ne]
     intro e
     exact this (by omega)
    rw [decide_eq_false h4] at ho
    rw [ho]
    rw [h1] at h5
    simp only [impl_areLessons.j0, h5, if_true, Bool.false_and]
    exact Ev.now _
 ·have h2 : ((ls.flatten.length : Int) = (l.length : Int)) = False := eq_false (by omega)
  simp only [h2, h1, if_false, decide_false, Bool.false_and]
  refine Ev.succ ?_
  simp only [impl_areLessons.j0, if_true]
  exact Ev.now _
def goodB (l : List S62) (ls : List (List Int)) : Bool := wordsB l && (decide (ls.length ≤ 16) && lessB l ls)
theorem areGood_ev (l : List S62) (ls : List (List Int)) (hl0 : l.length ≤ 1048576) (hz : WSz l) (hs : ls.flatten.length ≤ 1048576) (hl : ls.length ≤ 1048576) : Ev (fun k => impl_areGood.f k l ls) (goodB l ls) := by
 unfold impl_areGood.f goodB
 refine Ev.bind (areWords_ev l hl0 hz) ?_
 cases wordsB l with
 | false =>
  simp only [Bool.false_eq_true, if_false, Bool.false_and]
  exact Ev.now _
 | true =>
  simp only [if_true, Bool.true_and]
  by_cases h : ls.length ≤ 16
  ·have h2 : ((ls.length : Int) ≤ 16) = True := eq_true (by omega)
   simp only [h2, h, if_true, decide_true, Bool.true_and]
   exact Ev.bind (areLessons_ev l ls hl0 hs hl) (Ev.now _)
  ·have h2 : ((ls.length : Int) ≤ 16) = False := eq_false (by omega)
   simp only [h2, h, if_false, decide_false, Bool.false_and]
   exact Ev.now _
theorem exAsked_ev (l : List S62) (ls : List (List Int)) (n : Int) (hl0 : l.length ≤ 1048576) (hz : WSz l) (hs : ls.flatten.length ≤ 1048576) (hl : ls.length ≤ 1048576) : Ev (fun k => spec_exAsked.f k l ls n) (goodB l ls && inB n 0 ls.length) := by
 unfold spec_exAsked.f goodB
 refine Ev.bind (leGood_ev l hl0 hz) ?_
 cases wordsB l with
 | false =>
  simp only [Bool.false_eq_true, if_false, Bool.false_and]
  exact Ev.now _
 | true =>
  simp only [if_true, Bool.true_and]
  refine Ev.bind (leAre_ev l ls hl0 hz hs hl) ?_
  cases decide (ls.length ≤ 16) && lessB l ls with
  | false =>
   simp only [Bool.false_eq_true, if_false, Bool.false_and]
   exact Ev.now _
  | true =>
   simp only [if_true, Bool.true_and, l1In_eq, Option.bind_some]
   exact Ev.now _
theorem isTaught_ev (ls : List (List Int)) (x : Int) (hs : ls.flatten.length ≤ 1048576) : Ev (fun k => impl_isTaught.f k ls x) (decide (x ∈ ls.flatten)) := by
 unfold impl_isTaught.f impl_isTaught_1.f
 have h := anyO_ev (p := fun k y => slices_Contains_int.f k y x) (f := fun y => decide (x ∈ y)) (l := ls) (fun y hy => contains_ev y x (by have := flatLe hy; omega))
 refine Ev.bind h (Ev.eq (Ev.now _) ?_)
 rw [Bool.eq_iff_iff, List.any_eq_true, decide_eq_true_eq, List.mem_flatten]
 simp
theorem l1PutI_ev (l : List Int) (x : Int) (hl : l.length ≤ 4000000) : ∀ d j, j + d = l.length → ∃ r : List Int, Ev (fun k => spec_l1Put.l0 k l x (j : Int)) r ∧ (∀ y, y ∈ r ↔ y ∈ l ∨ y = x) ∧ r.length ≤ l.length + 1 := by
 have ins : ∀ j, j ≤ l.length → (∀ y, y ∈ l.take j ++ [x] ++ l.drop j ↔ y ∈ l ∨ y = x) ∧ (l.take j ++ [x] ++ l.drop j).length ≤ l.length + 1 := by
  intro j hj
  constructor
  ·intro y
   have e : y ∈ l ↔ y ∈ l.take j ∨ y ∈ l.drop j := by rw [← List.mem_append, List.take_append_drop]
   rw [e]
   simp only [List.mem_append, List.mem_singleton]
   constructor
   ·rintro ((h | h) | h)
    ·exact Or.inl (Or.inl h)
    ·exact Or.inr h
    ·exact Or.inl (Or.inr h)
   ·rintro ((h | h) | h)
    ·exact Or.inl (Or.inl h)
    ·exact Or.inr h
    ·exact Or.inl (Or.inr h)
  ·simp only [List.length_append, List.length_take, List.length_drop, List.length_singleton]
   omega
 intro d
 induction d with
 | zero =>
  intro j hj
  obtain ⟨i1, i2⟩ := ins j (by omega)
  refine ⟨l.take j ++ [x] ++ l.drop j, Ev.succ ?_, i1, i2⟩
  have h1 : ((j : Int) < (l.length : Int)) = False := eq_false (by omega)
  have h2 : ((j : Int) ≤ (l.length : Int)) = True := eq_true (by omega)
  have h3 : (0 + (l.take j).length < 17592186044416) = True := eq_true (by rw [List.length_take]; omega)
  have h4 : ((l.take j).length < 17592186044416) = True := eq_true (by rw [List.length_take]; omega)
  have h5 : ((l.take j ++ [x]).length + (l.drop j).length < 17592186044416) = True := eq_true (by simp only [List.length_append, List.length_take, List.length_drop, List.length_singleton]; omega)
  simp only [spec_l1Put.l0, h1, if_false, Option.bind_some, nat_nonneg, if_true, h2, Int.toNat_natCast, List.length_nil, h3, List.nil_append, h4, h5]
  exact Ev.now _
 | succ d ih =>
  intro j hj
  have hlt : j < l.length := by omega
  have h1 : ((j : Int) < (l.length : Int)) = True := eq_true (by omega)
  have h2 : ((j : Int) ≤ (l.length : Int)) = True := eq_true (by omega)
  have hg : l.getD j 0 = l[j] := by rw [List.getD_eq_getElem?_getD, List.getElem?_eq_getElem hlt]; rfl
  by_cases h6 : l[j] < x
  ·obtain ⟨r, hr, hm, hn⟩ := ih (j + 1) (by omega)
   refine ⟨r, Ev.succ ?_, hm, hn⟩
   simp only [spec_l1Put.l0, h1, if_true, nat_nonneg, rdJ, hg, eq_true h6, wrap_succ (show j < 4611686018427387904 by omega)]
   exact hr
  ·by_cases h7 : l[j] = x
   ·refine ⟨l, Ev.succ ?_, fun y => ⟨fun h => Or.inl h, fun h => h.elim id (fun e => by rw [e, ← h7]; exact List.getElem_mem hlt)⟩, by omega⟩
    simp only [spec_l1Put.l0, h1, if_true, nat_nonneg, rdJ, hg, eq_false h6, if_false, eq_true h7]
    exact Ev.now _
   ·obtain ⟨i1, i2⟩ := ins j (by omega)
    refine ⟨l.take j ++ [x] ++ l.drop j, Ev.succ ?_, i1, i2⟩
    have h3 : (0 + (l.take j).length < 17592186044416) = True := eq_true (by rw [List.length_take]; omega)
    have h4 : ((l.take j).length < 17592186044416) = True := eq_true (by rw [List.length_take]; omega)
    have h5 : ((l.take j ++ [x]).length + (l.drop j).length < 17592186044416) = True := eq_true (by simp only [List.length_append, List.length_take, List.length_drop, List.length_singleton]; omega)
    simp only [spec_l1Put.l0, h1, if_true, nat_nonneg, rdJ, hg, eq_false h6, eq_false h7, if_false, Option.bind_some, h2, Int.toNat_natCast, List.length_nil, h3, List.nil_append, h4, h5]
    exact Ev.now _
theorem l1Puts_ev (l : List Int) (x : Int) (hl : l.length ≤ 4000000) : ∃ r : List Int, Ev (fun k => spec_l1Put.f k l x) r ∧ (∀ y, y ∈ r ↔ y ∈ l ∨ y = x) ∧ r.length ≤ l.length + 1 := by
 unfold spec_l1Put.f
 exact l1PutI_ev l x hl l.length 0 (by omega)
theorem exTaught_l1 (ls : List (List Int)) (n : Nat) (y : List Int) (P : List Int → Prop) (hy : y.length ≤ 1048576) : ∀ d i (acc : List Int), i + d = y.length → acc.length + d ≤ 3000000 → (∀ acc2 : List Int, acc2.length ≤ acc.length + d → (∀ z, z ∈ acc2 ↔ z ∈ acc ∨ z ∈ y.drop i) → ∃ r, Ev (fun k => spec_exTaught.l0 k acc2 ls (ls.length : Int) (wrap64 ((n : Int) + 1))) r ∧ P r) → ∃ r, Ev (fun k => spec_exTaught.l1 k acc ls (ls.length : Int) (n : Int) y (y.length : Int) (i : Int)) r ∧ P r := by
 intro d
 induction d with
 | zero =>
  intro i acc hi ha hc
  obtain ⟨r, hr, hp⟩ := hc acc (by omega) (fun z => by rw [List.drop_of_length_le (by omega)]; simp)
  refine ⟨r, Ev.succ ?_, hp⟩
  have h1 : ((i : Int) < (y.length : Int)) = False := eq_false (by omega)
  simp only [spec_exTaught.l1, h1, if_false]
  exact hr
 | succ d ih =>
  intro i acc hi ha hc
  have hlt : i < y.length := by omega
  have h1 : ((i : Int) < (y.length : Int)) = True := eq_true (by omega)
  have hg : y.getD i 0 = y[i] := by rw [List.getD_eq_getElem?_getD, List.getElem?_eq_getElem hlt]; rfl
  obtain ⟨a, ha1, ha2, ha3⟩ := l1Puts_ev acc y[i] (by omega)
  obtain ⟨r, hr, hp⟩ := ih (i + 1) a (by omega) (by omega) (fun acc2 h2 h3 => hc acc2 (by omega) (fun z => by
   rw [h3, ha2, List.drop_eq_getElem_cons hlt, List.mem_cons]
   constructor
   ·rintro ((h | h) | h)
    ·exact Or.inl h
    ·exact Or.inr (Or.inl h)
    ·exact Or.inr (Or.inr h)
   ·rintro (h | h | h)
    ·exact Or.inl (Or.inl h)
    ·exact Or.inl (Or.inr h)
    ·exact Or.inr h))
  refine ⟨r, Ev.succ ?_, hp⟩
  simp only [spec_exTaught.l1, h1, if_true, nat_nonneg, rdJ, hg, wrap_succ (show i < 4611686018427387904 by omega)]
  exact Ev.bind ha1 hr
theorem exTaught_l0 (ls : List (List Int)) (hs : ls.flatten.length ≤ 1048576) (hl : ls.length ≤ 1048576) : ∀ d n (acc : List Int), n + d = ls.length → acc.length + (ls.drop n).flatten.length ≤ 2000000 → ∃ r, Ev (fun k => spec_exTaught.l0 k acc ls (ls.length : Int) (n : Int)) r ∧ (∀ z, z ∈ r ↔ z ∈ acc ∨ z ∈ (ls.drop n).flatten) ∧ r.length ≤ acc.length + (ls.drop n).flatten.length := by
 intro d
 induction d with
 | zero =>
  intro n acc hn ha
  refine ⟨acc, Ev.succ ?_, fun z => by rw [List.drop_of_length_le (by omega)]; simp, by omega⟩
  have h1 : ((n : Int) < (ls.length : Int)) = False := eq_false (by omega)
  simp only [spec_exTaught.l0, h1, if_false]
  exact Ev.now _
 | succ d ih =>
  intro n acc hn ha
  have hlt : n < ls.length := by omega
  have h1 : ((n : Int) < (ls.length : Int)) = True := eq_true (by omega)
  have hle := flatLe (List.getElem_mem hlt)
  have hd := dropFlat ls n hlt
  have hdl : (ls.drop n).flatten.length = ls[n].length + (ls.drop (n + 1)).flatten.length := by rw [hd, List.length_append]
  obtain ⟨r, hr, hp⟩ := exTaught_l1 ls n ls[n] (fun r => (∀ z, z ∈ r ↔ z ∈ acc ∨ z ∈ (ls.drop n).flatten) ∧ r.length ≤ acc.length + (ls.drop n).flatten.length) (by omega) ls[n].length 0 acc (by omega) (by omega) (fun acc2 h2 h3 => by
   rw [wrap_succ (show n < 4611686018427387904 by omega)]
   obtain ⟨r, hr, hq, hk⟩ := ih (n + 1) acc2 (by omega) (by omega)
   refine ⟨r, hr, fun z => ?_, by omega⟩
   rw [hq, h3, hd, List.drop_zero, List.mem_append, or_assoc])
  refine ⟨r, Ev.succ ?_, hp⟩
  simp only [spec_exTaught.l0, h1, if_true, nat_nonneg, rdLx, getL ls n hlt]
  exact hr
theorem exTaught_ev (ls : List (List Int)) (n : Int) (hs : ls.flatten.length ≤ 1048576) (hl : ls.length ≤ 1048576) (h0 : 0 ≤ n) (h1 : n ≤ ls.length) : ∃ r : List Int, Ev (fun k => spec_exTaught.f k ls n) r ∧ (∀ z, z ∈ r ↔ z ∈ (ls.take n.toNat).flatten) ∧ r.length ≤ 4000000 := by
 have hb := takeFlat ls n.toNat
 obtain ⟨r, hr, hq, hk⟩ := exTaught_l0 (ls.take n.toNat) (by omega) (by rw [List.length_take]; omega) (ls.take n.toNat).length 0 [] (by omega) (by rw [List.drop_zero, List.length_nil]; omega)
 rw [List.drop_zero] at hq hk
 refine ⟨r, ?_, fun z => by rw [hq]; simp, by rw [List.length_nil] at hk; omega⟩
 unfold spec_exTaught.f
 simp only [eq_true h0, eq_true h1, if_true, Option.bind_some]
 exact hr
theorem isFair_ev (ls : List (List Int)) (x : Int) (c : List Int) (hs : ls.flatten.length ≤ 1048576) : Ev (fun k => impl_isFair.f k ls x c) (c.all fun y => decide (y ∈ ls.flatten)) := by
 unfold impl_isFair.f impl_isFair_1.f impl_allOf_int.f
 exact Ev.bind (allO_ev (fun y _ => isTaught_ev ls y hs)) (Ev.now _)
theorem exFair_ev (t : List Int) (x : Int) (c : List Int) (ht : t.length ≤ 4000000) (hc : c.length < 4611686018427387904) : Ev (fun k => spec_exFair.f k t x c) (c.all fun y => decide (y ∈ t)) := by
 unfold spec_exFair.f
 refine Ev.eq (Ev.all0 (L := fun k j => spec_exFair.l0 k t c (c.length : Int) (j : Int)) (P := fun j => decide (c.getD j 0 ∈ t)) (n := c.length) (a := true) (b := false) ?_ ?_ ?_) (by rw [all_range c (fun y => decide (y ∈ t))]; cases c.all fun y => decide (y ∈ t) <;> rfl)
 ·refine Ev.succ ?_
  simp only [spec_exFair.l0, Int.lt_irrefl, if_false]
  exact Ev.now _
 ·intro j r hj hP h
  refine Ev.succ ?_
  have h1 : ((j : Int) < (c.length : Int)) = True := eq_true (by omega)
  simp only [spec_exFair.l0, h1, if_true, nat_nonneg, rdJ, wrap_succ (show j < 4611686018427387904 by omega)]
  refine Ev.bind (l1Has_ev _ _ (by omega)) ?_
  simp only [hP, if_true]
  exact h
 ·intro j hj hP
  refine Ev.succ ?_
  have h1 : ((j : Int) < (c.length : Int)) = True := eq_true (by omega)
  simp only [spec_exFair.l0, h1, if_true, nat_nonneg, rdJ]
  refine Ev.bind (l1Has_ev _ _ (by omega)) ?_
  simp only [hP, Bool.false_eq_true, if_false]
  exact Ev.now _
def quesB (x : Int) (l : List Int) : Bool := inB l.length 2 4 && (l.all (fun y => decide (0 ≤ y ∧ y ≤ 15)) && (decide l.Nodup && decide (x ∈ l)))
theorem isQuestion_ev (x : Int) (l : List Int) (hl : l.length < 17592186044416) : Ev (fun k => impl_isQuestion.f k x l) (quesB x l) := by
 unfold impl_isQuestion.f quesB
 simp only [within_eq, Option.bind_some, impl_allWithin.f]
 rcases Bool.eq_false_or_eq_true (inB l.length 2 4) with h | h
 ·simp only [h, if_true, Bool.true_and]
  rcases Bool.eq_false_or_eq_true (l.all (fun y => decide (0 ≤ y ∧ y ≤ 15))) with h2 | h2
  ·simp only [h2, if_true, Bool.true_and]
   obtain ⟨r, hr, hn⟩ := distinct_len l hl
   simp only [hr, Option.bind_some]
   by_cases h3 : l.Nodup
   ·have h4 : ((r.length : Int) = (l.length : Int)) = True := eq_true (by have := hn.2 h3; omega)
    simp only [h4, if_true, h3, decide_true, Bool.true_and]
    exact Ev.bind (contains_ev l x (by omega)) (Ev.now _)
   ·have h4 : ((r.length : Int) = (l.length : Int)) = False := eq_false (fun e => h3 (hn.1 (by omega)))
    simp only [h4, if_false, h3, decide_false, Bool.false_and]
    exact Ev.now _
  ·simp only [h2]
   exact Ev.now _
 ·simp only [h]
  exact Ev.now _
def okQ (l : List Int) (i : Nat) : Bool := inB (l.getD i 0) 0 15 && !(decide (l.getD i 0 ∈ l.take i))
theorem okQ_all (l : List Int) : (List.range l.length).all (okQ l) = (l.all (fun y => decide (0 ≤ y ∧ y ≤ 15)) && decide l.Nodup) := by
 have hg : ∀ i (hi : i < l.length), l.getD i 0 = l[i] := fun i hi => by rw [List.getD_eq_getElem?_getD, List.getElem?_eq_getElem hi]; rfl
 rw [Bool.eq_iff_iff, Bool.and_eq_true, List.all_eq_true, List.all_eq_true, decide_eq_true_eq]
 constructor
 ·intro h
  constructor
  ·intro y hy
   obtain ⟨i, hi, rfl⟩ := List.getElem_of_mem hy
   have := h i (List.mem_range.2 hi)
   rw [okQ, hg i hi, Bool.and_eq_true] at this
   exact this.1
  ·rw [List.Nodup, List.pairwise_iff_getElem]
   intro i j hi hj hij e
   have := h j (List.mem_range.2 hj)
   rw [okQ, hg j hj, Bool.and_eq_true, Bool.not_eq_true', decide_eq_false_iff_not] at this
   exact this.2 (List.mem_iff_getElem.2 ⟨i, by rw [List.length_take]; omega, by rw [List.getElem_take]; exact e⟩)
 ·rintro ⟨h1, h2⟩ j hj
  have hj' := List.mem_range.1 hj
  rw [okQ, hg j hj', Bool.and_eq_true, Bool.not_eq_true', decide_eq_false_iff_not]
  refine ⟨h1 _ (List.getElem_mem hj'), fun hm => ?_⟩
  obtain ⟨i, hi, e⟩ := List.mem_iff_getElem.1 hm
  rw [List.length_take] at hi
  rw [List.getElem_take] at e
  rw [List.Nodup, List.pairwise_iff_getElem] at h2
  exact h2 i j (by omega) hj' (by omega) e
theorem exQuestion_ev (x : Int) (l : List Int) (hl : l.length < 17592186044416) : Ev (fun k => spec_exQuestion.f k x l) (quesB x l) := by
 unfold spec_exQuestion.f
 have key := Ev.all0 (L := fun k j => spec_exQuestion.l0 k l (l.length : Int) (j : Int) x l) (P := okQ l) (n := l.length) (a := inB l.length 2 4 && decide (x ∈ l)) (b := false)
  (by
   refine Ev.succ ?_
   simp only [spec_exQuestion.l0, Int.lt_irrefl, if_false, l1In_eq, Option.bind_some]
   rcases Bool.eq_false_or_eq_true (inB l.length 2 4) with h | h
   ·simp only [h, if_true, Bool.true_and]
    exact Ev.bind (l1Has_ev l x (by omega)) (Ev.now _)
   ·simp only [h]
    exact Ev.now _)
  (by
   intro j r hj hP h
   refine Ev.succ ?_
   have h1 : ((j : Int) < (l.length : Int)) = True := eq_true (by omega)
   have h2 : ((j : Int) ≤ (l.length : Int)) = True := eq_true (by omega)
   rw [okQ, Bool.and_eq_true, Bool.not_eq_true'] at hP
   simp only [spec_exQuestion.l0, l1In_eq, Option.bind_some, h1, h2, if_true, nat_nonneg, rdJ, Int.toNat_natCast, wrap_succ (show j < 4611686018427387904 by omega), hP.1]
   refine Ev.bind (l1Has_ev _ _ (by rw [List.length_take]; omega)) ?_
   simp only [hP.2]
   exact h)
  (by
   intro j hj hP
   refine Ev.succ ?_
   have h1 : ((j : Int) < (l.length : Int)) = True := eq_true (by omega)
   have h2 : ((j : Int) ≤ (l.length : Int)) = True := eq_true (by omega)
   rw [okQ] at hP
   simp only [spec_exQuestion.l0, l1In_eq, Option.bind_some, h1, h2, if_true, nat_nonneg, rdJ, Int.toNat_natCast]
   rcases Bool.eq_false_or_eq_true (inB (l.getD j 0) 0 15) with h | h
   ·rw [h, Bool.true_and, Bool.not_eq_false'] at hP
    simp only [h, if_true]
    refine Ev.bind (l1Has_ev _ _ (by rw [List.length_take]; omega)) ?_
    simp only [hP, if_true]
    exact Ev.now _
   ·simp only [h]
    exact Ev.now _)
 refine Ev.eq key ?_
 rw [okQ_all]
 unfold quesB
 cases inB l.length 2 4 <;> cases (l.all (fun y => decide (0 ≤ y ∧ y ≤ 15))) <;> cases decide l.Nodup <;> cases decide (x ∈ l) <;> rfl
theorem exRight_l0 (l : List Int) (x : Int) (hl : l.length < 4611686018427387904) : ∀ d j, j + d = l.length → Ev (fun k => spec_exRight.l0 k l (l.length : Int) (j : Int) x l) (idxD l x d j) := by
 intro d
 induction d with
 | zero =>
  intro j hj
  refine Ev.succ ?_
  have h1 : ((j : Int) < (l.length : Int)) = False := eq_false (by omega)
  simp only [spec_exRight.l0, h1, if_false, idxD]
  exact Ev.now _
 | succ d ih =>
  intro j hj
  refine Ev.succ ?_
  have h1 : ((j : Int) < (l.length : Int)) = True := eq_true (by omega)
  simp only [spec_exRight.l0, h1, if_true, nat_nonneg, rdJ, wrap_succ (show j < 4611686018427387904 by omega), idxD]
  by_cases h : l.getD j 0 = x
  ·simp only [eq_true h, if_true]
   exact Ev.now _
  ·simp only [eq_false h, if_false]
   exact ih (j + 1) (by omega)
def qat (l : List S28) (j : Nat) : S28 := l.getD j z28
theorem rdq (l : List S28) (j : Nat) : rd_T28 l (j : Int) = qat l j := by simp [rd_T28, qat]
theorem rdqL (l : List S69) (j : Nat) : rd_T69 l (j : Int) = l.getD j z69 := by simp [rd_T69]
theorem qat_get (l : List S28) (j : Nat) (h : j < l.length) : qat l j = l[j] := by unfold qat; rw [List.getD_eq_getElem?_getD, List.getElem?_eq_getElem h]; rfl
/-- All choices are few enough. -/
def QSz (l : List S28) : Prop := ∀ q, q ∈ l → q.f1.length ≤ 1048576
def qOk (q : S28) : Bool := quesB q.f0 q.f1
def ansAt (l : List S28) (a : List Int) (i : Nat) : Bool := inB (a.getD i 0) (-1) (((qat l i).f1.length : Int) - 1)
def ansB (l : List S28) (a : List Int) : Bool := decide (l.length ≤ 20) && (l.all qOk && (decide (a.length = l.length) && (List.range l.length).all (ansAt l a)))
theorem qsz_at {l : List S28} (hz : QSz l) {j : Nat} (hj : j < l.length) : (qat l j).f1.length ≤ 1048576 := by rw [qat_get l j hj]; exact hz _ (List.getElem_mem hj)
theorem areAnswered_ev (l : List S28) (a : List Int) (hl : l.length ≤ 1048576) (ha : a.length ≤ 1048576) (hz : QSz l) : Ev (fun k => impl_areAnswered.f k l a) (ansB l a) := by
 unfold impl_areAnswered.f ansB
 by_cases h1 : l.length ≤ 20
 ·have g1 : ((l.length : Int) > 20) = False := eq_false (by omega)
  simp only [g1, if_false, h1, decide_true, Bool.true_and]
  unfold impl_allOf_impl_Question.f
  refine Ev.bind (allO_ev (f := qOk) (fun q hq => isQuestion_ev q.f0 q.f1 (by have := hz q hq; omega))) ?_
  rcases Bool.eq_false_or_eq_true (l.all qOk) with h2 | h2
  ·simp only [h2, if_true, Bool.true_and]
   refine Ev.succ ?_
   by_cases h3 : a.length = l.length
   ·simp only [impl_areAnswered.j0, h3, bne_self_eq_false, Bool.false_eq_true, if_false, decide_true, Bool.true_and]
    refine Ev.eq (Ev.all0 (L := fun k j => impl_areAnswered.l0 k a l (l.length : Int) (j : Int)) (P := ansAt l a) (n := l.length) (a := true) (b := false) ?_ ?_ ?_) (by cases (List.range l.length).all (ansAt l a) <;> rfl)
    ·refine Ev.succ ?_
     simp only [impl_areAnswered.l0, Int.lt_irrefl, if_false]
     exact Ev.now _
    ·intro j r hj hP h
     refine Ev.succ ?_
     have g1 : ((j : Int) < (l.length : Int)) = True := eq_true (by omega)
     have g2 : ((j : Int) < (a.length : Int)) = True := eq_true (by omega)
     have := qsz_at hz hj
     unfold ansAt at hP
     simp only [impl_areAnswered.l0, g1, g2, if_true, nat_nonneg, rdq, rdJ, within_eq, Option.bind_some, wrap_id (x := ((qat l j).f1.length : Int) - 1) (by omega) (by omega), hP, wrap_succ (show j < 4611686018427387904 by omega)]
     exact h
    ·intro j hj hP
     refine Ev.succ ?_
     have g1 : ((j : Int) < (l.length : Int)) = True := eq_true (by omega)
     have g2 : ((j : Int) < (a.length : Int)) = True := eq_true (by omega)
     have := qsz_at hz hj
     unfold ansAt at hP
     simp only [impl_areAnswered.l0, g1, g2, if_true, nat_nonneg, rdq, rdJ, within_eq, Option.bind_some, wrap_id (x := ((qat l j).f1.length : Int) - 1) (by omega) (by omega), hP, Bool.false_eq_true, if_false]
     exact Ev.now _
   ·have g3 : ((a.length : Int) != (l.length : Int)) = true := by simp; omega
    simp only [impl_areAnswered.j0, g3, if_true, h3, decide_false, Bool.false_and]
    exact Ev.now _
  ·simp only [h2, Bool.false_eq_true, if_false, Bool.false_and]
   refine Ev.succ ?_
   simp only [impl_areAnswered.j0, if_true]
   exact Ev.now _
 ·have g1 : ((l.length : Int) > 20) = True := eq_true (by omega)
  simp only [g1, if_true, h1, decide_false, Bool.false_and]
  refine Ev.succ ?_
  simp only [impl_areAnswered.j0, if_true]
  exact Ev.now _
theorem exAnswers_ev (l : List S28) (a : List Int) (hl : l.length ≤ 1048576) (ha : a.length ≤ 1048576) (hz : QSz l) : Ev (fun k => spec_exAnswers.f k l a) (ansB l a) := by
 unfold spec_exAnswers.f ansB
 by_cases h1 : l.length ≤ 20
 ·have g1 : ((l.length : Int) > 20) = False := eq_false (by omega)
  simp only [g1, if_false, h1, decide_true, Bool.true_and]
  refine Ev.succ ?_
  by_cases h3 : a.length = l.length
  ·simp only [spec_exAnswers.j0, h3, bne_self_eq_false, Bool.false_eq_true, if_false, decide_true, Bool.true_and]
   refine Ev.eq (Ev.all0 (L := fun k j => spec_exAnswers.l0 k a l (l.length : Int) (j : Int)) (P := fun j => qOk (qat l j) && ansAt l a j) (n := l.length) (a := true) (b := false) ?_ ?_ ?_) ?_
   ·refine Ev.succ ?_
    simp only [spec_exAnswers.l0, Int.lt_irrefl, if_false]
    exact Ev.now _
   ·intro j r hj hP h
    refine Ev.succ ?_
    have g1 : ((j : Int) < (l.length : Int)) = True := eq_true (by omega)
    have g2 : ((j : Int) < (a.length : Int)) = True := eq_true (by omega)
    have := qsz_at hz hj
    rw [Bool.and_eq_true] at hP
    obtain ⟨hP1, hP2⟩ := hP
    unfold qOk at hP1
    unfold ansAt at hP2
    simp only [spec_exAnswers.l0, g1, g2, if_true, nat_nonneg, rdq, rdJ, l1In_eq, Option.bind_some, wrap_id (x := ((qat l j).f1.length : Int) - 1) (by omega) (by omega), wrap_succ (show j < 4611686018427387904 by omega)]
    refine Ev.bind (exQuestion_ev _ _ (by omega)) ?_
    simp only [hP1, hP2, if_true]
    exact h
   ·intro j hj hP
    refine Ev.succ ?_
    have g1 : ((j : Int) < (l.length : Int)) = True := eq_true (by omega)
    have g2 : ((j : Int) < (a.length : Int)) = True := eq_true (by omega)
    have := qsz_at hz hj
    simp only [spec_exAnswers.l0, g1, g2, if_true, nat_nonneg, rdq, rdJ, l1In_eq, Option.bind_some, wrap_id (x := ((qat l j).f1.length : Int) - 1) (by omega) (by omega)]
    refine Ev.bind (exQuestion_ev _ _ (by omega)) ?_
    unfold qOk ansAt at hP
    rcases Bool.eq_false_or_eq_true (quesB (qat l j).f0 (qat l j).f1) with h2 | h2
    ·rw [h2, Bool.true_and] at hP
     simp only [h2, hP, if_true, Bool.false_eq_true, if_false]
     exact Ev.now _
    ·simp only [h2, Bool.false_eq_true, if_false]
     exact Ev.now _
   ·have e : (List.range l.length).all (fun j => qOk (qat l j) && ansAt l a j) = (l.all qOk && (List.range l.length).all (ansAt l a)) := by
     rw [Bool.eq_iff_iff, Bool.and_eq_true, List.all_eq_true, List.all_eq_true, List.all_eq_true]
     constructor
     ·intro h
      refine ⟨fun q hq => ?_, fun j hj => ?_⟩
      ·obtain ⟨i, hi, rfl⟩ := List.mem_iff_getElem.1 hq
       have := h i (List.mem_range.2 hi)
       rw [Bool.and_eq_true, qat_get l i hi] at this
       exact this.1
      ·have := h j hj
       rw [Bool.and_eq_true] at this
       exact this.2
     ·rintro ⟨h1, h2⟩ j hj
      rw [Bool.and_eq_true, qat_get l j (List.mem_range.1 hj)]
      exact ⟨h1 _ (List.getElem_mem _), h2 j hj⟩
    rw [e]
    cases l.all qOk && (List.range l.length).all (ansAt l a) <;> rfl
  ·have g3 : ((a.length : Int) != (l.length : Int)) = true := by simp; omega
   simp only [spec_exAnswers.j0, g3, if_true, h3, decide_false, Bool.false_and, Bool.and_false]
   exact Ev.now _
 ·have g1 : ((l.length : Int) > 20) = True := eq_true (by omega)
  simp only [g1, if_true, h1, decide_false, Bool.false_and]
  refine Ev.succ ?_
  simp only [spec_exAnswers.j0, if_true]
  exact Ev.now _
theorem ansB_facts {l : List S28} {a : List Int} (h : ansB l a = true) : l.length ≤ 20 ∧ a.length = l.length ∧ ∀ j, j < l.length → quesB (qat l j).f0 (qat l j).f1 = true ∧ -1 ≤ a.getD j 0 ∧ a.getD j 0 < (qat l j).f1.length := by
 unfold ansB at h
 rw [Bool.and_eq_true, Bool.and_eq_true, Bool.and_eq_true, decide_eq_true_eq, decide_eq_true_eq, List.all_eq_true, List.all_eq_true] at h
 obtain ⟨h1, h2, h3, h4⟩ := h
 refine ⟨h1, h3, fun j hj => ⟨?_, ?_⟩⟩
 ·rw [qat_get l j hj]
  exact h2 _ (List.getElem_mem hj)
 ·have := of_decide_eq_true (h4 j (List.mem_range.2 hj))
  omega
/-- An answer is the place of the right choice just where that choice is the word asked for. -/
theorem right_iff (l : List Int) (x a : Int) (h : quesB x l = true) (h0 : 0 ≤ a) (h1 : a < l.length) : a = idxD l x l.length 0 ↔ rd l a = x := by
 obtain ⟨n, rfl⟩ : ∃ n : Nat, a = (n : Int) := ⟨a.toNat, by omega⟩
 unfold quesB at h
 rw [Bool.and_eq_true, Bool.and_eq_true, Bool.and_eq_true, decide_eq_true_eq, decide_eq_true_eq] at h
 obtain ⟨_, _, hn, hx⟩ := h
 have hg : ∀ i (hi : i < l.length), l.getD i 0 = l[i] := fun i hi => by rw [List.getD_eq_getElem?_getD, List.getElem?_eq_getElem hi]; rfl
 have key : ∀ d j, j + d = l.length → 0 ≤ idxD l x d j → ∃ i : Nat, idxD l x d j = (i : Int) ∧ i < l.length ∧ l.getD i 0 = x := by
  intro d
  induction d with
  | zero => intro j _ h; simp [idxD] at h
  | succ d ih =>
   intro j hj h
   rw [idxD] at h ⊢
   by_cases hq : l.getD j 0 = x
   ·rw [if_pos hq]
    exact ⟨j, rfl, by omega, hq⟩
   ·rw [if_neg hq] at h ⊢
    exact ih (j + 1) (by omega) h
 have hpos : 0 ≤ idxD l x l.length 0 := of_decide_eq_true ((idxD_mem l x).trans (decide_eq_true hx))
 obtain ⟨i, e, hi, hxi⟩ := key l.length 0 (by omega) hpos
 rw [e, rdJ]
 constructor
 ·intro h2
  have : n = i := by omega
  subst this
  exact hxi
 ·intro h2
  have hn' : n < l.length := by omega
  rw [hg n hn'] at h2
  rw [hg i hi] at hxi
  rw [List.Nodup, List.pairwise_iff_getElem] at hn
  rcases Nat.lt_trichotomy n i with h3 | h3 | h3
  ·exact absurd (h2.trans hxi.symm) (hn n i hn' hi h3)
  ·omega
  ·exact absurd (hxi.trans h2.symm) (hn i n hi hn' h3)
theorem right_neg (l : List Int) (x : Int) (h : quesB x l = true) : idxD l x l.length 0 ≠ -1 := by
 unfold quesB at h
 rw [Bool.and_eq_true, Bool.and_eq_true, Bool.and_eq_true, decide_eq_true_eq, decide_eq_true_eq] at h
 have hpos : 0 ≤ idxD l x l.length 0 := of_decide_eq_true ((idxD_mem l x).trans (decide_eq_true h.2.2.2))
 omega
/-- Whether the j-th answer is right. -/
def rightAt (l : List S28) (a : List Int) (j : Nat) : Bool := decide (0 ≤ a.getD j 0) && decide (rd (qat l j).f1 (a.getD j 0) = (qat l j).f0)
theorem isRight_eq (l : List S28) (a : List Int) (h : ansB l a = true) (j : Nat) (hj : j < l.length) : impl_Question_isRight.f (qat l j).f0 (qat l j).f1 (a.getD j 0) = some (rightAt l a j) := by
 obtain ⟨_, _, h3⟩ := ansB_facts h
 obtain ⟨_, h5, h6⟩ := h3 j hj
 unfold impl_Question_isRight.f rightAt
 by_cases h0 : 0 ≤ a.getD j 0
 ·have g : (a.getD j 0 ≥ 0) = True := eq_true h0
  simp only [g, h0, h6, if_true, decide_true, Bool.true_and]
  rfl
 ·have g : (a.getD j 0 ≥ 0) = False := eq_false h0
  simp only [g, h0, if_false, decide_false, Bool.false_and]
theorem exRight_ev (l : List S28) (j : Nat) (hj : (qat l j).f1.length < 4611686018427387904) : Ev (fun k => spec_exRight.f k (qat l j).f0 (qat l j).f1) (idxD (qat l j).f1 (qat l j).f0 (qat l j).f1.length 0) := by
 unfold spec_exRight.f
 exact exRight_l0 _ _ hj _ 0 (by omega)
theorem rightAt_iff (l : List S28) (a : List Int) (h : ansB l a = true) (j : Nat) (hj : j < l.length) : a.getD j 0 = idxD (qat l j).f1 (qat l j).f0 (qat l j).f1.length 0 ↔ rightAt l a j = true := by
 obtain ⟨_, _, h3⟩ := ansB_facts h
 obtain ⟨h4, h5, h6⟩ := h3 j hj
 unfold rightAt
 rw [Bool.and_eq_true, decide_eq_true_eq, decide_eq_true_eq]
 by_cases h0 : 0 ≤ a.getD j 0
 ·rw [right_iff _ _ _ h4 h0 h6]
  exact ⟨fun h => ⟨h0, h⟩, fun h => h.2⟩
 ·have e : a.getD j 0 = -1 := by omega
  have := right_neg _ _ h4
  rw [e]
  constructor
  ·intro h2; exact absurd h2.symm this
  ·intro h2; omega
/-! the laws' helpers -/
def qconv (x : S69) : S28 := ⟨x.f0, x.f1⟩
theorem toQuestionS_ev (l : List S69) (hl : l.length * 32 ≤ 140737488351232) (hz : ∀ y, y ∈ l → B69 y) : Ev (fun k => laws_toQuestionS.f k l) (l.map qconv) := by
 unfold laws_toQuestionS.f
 simp only [nat_nonneg, if_true, Int.toNat_natCast, show (l.length ≤ 8796093022208) = True from eq_true (by omega)]
 refine Ev.copy qconv l z69 z28 (fun k s j => laws_toQuestionS.l0 k l s j) ?_ ?_
 ·intro j s r hj hs h
  refine Ev.succ ?_
  have h1 : ((j : Int) < (l.length : Int)) = True := eq_true (by omega)
  have hy := hz (l.getD j z69) (by rw [List.getD_eq_getElem?_getD, List.getElem?_eq_getElem hj]; exact List.getElem_mem hj)
  simp only [laws_toQuestionS.l0, h1, if_true, nat_nonneg, hs, Int.toNat_natCast, wrap_succ (show j < 4611686018427387904 by omega), rdqL]
  unfold laws_toQuestion.f
  refine Ev.bind (Ev.bind (toIntS_ev _ hy.2.1) (Ev.now _)) ?_
  exact h
 ·intro s hs
  refine Ev.succ ?_
  simp only [laws_toQuestionS.l0, Int.lt_irrefl, if_false]
  exact Ev.now _
theorem eqQuestionS_ev (l : List S28) (hl : l.length < 4611686018427387904) (hz : QSz l) : Ev (fun k => laws_eqQuestionS.f k l l) true := by
 unfold laws_eqQuestionS.f
 simp only [if_true]
 exact Ev.upto (L := fun k j => laws_eqQuestionS.l0 k l l (j : Int)) (r := true) (n := l.length)
  (by
   refine Ev.succ ?_
   simp only [laws_eqQuestionS.l0, Int.lt_irrefl, if_false]
   exact Ev.now _)
  (by
   intro j hj h
   refine Ev.succ ?_
   have h1 : ((j : Int) < (l.length : Int)) = True := eq_true (by omega)
   have := qsz_at hz hj
   simp only [laws_eqQuestionS.l0, h1, if_true, nat_nonneg, wrap_succ (show j < 4611686018427387904 by omega), rdq]
   unfold laws_eqQuestion.f
   simp only [if_true]
   refine Ev.bind (Ev.bind (eqIntS_ev _ (by omega)) (by simp only [if_true]; exact Ev.now _)) ?_
   simp only [if_true]
   exact h)
  0 (Nat.zero_le _)
/-- How many numbers there are in all. -/
def qsum : List S69 → Nat
 | [] => 0
 | x :: l => x.f1.length + qsum l
theorem qsum_mem : ∀ {l : List S69} {x}, x ∈ l → x.f1.length ≤ qsum l
 | y :: l, x, h => by
  rcases List.mem_cons.1 h with rfl | h
  ·simp [qsum]
  ·have := qsum_mem h
   simp only [qsum]
   omega
theorem szQuestionA_ev (l : List S69) (A : Int) (hA0 : 0 ≤ A) (hA1 : A ≤ 1048576) (hl : l.length * 32 ≤ 140737488351232) (hz : ∀ y, y ∈ l → B69 y) : ∃ r, (0 ≤ r → (l.length : Int) + qsum l ≤ A) ∧ Ev (fun k => laws_szQuestionS.f k l A) r := by
 unfold laws_szQuestionS.f
 rw [wrap_id (x := A - (l.length : Int)) (by omega) (by omega)]
 by_cases h0 : A - (l.length : Int) < 0
 ·refine ⟨-1, fun h => absurd h (by decide), ?_⟩
  simp only [eq_true h0, if_true]
  exact Ev.now _
 ·have key : ∀ n j, j + n = l.length → ∀ a : Int, 0 ≤ a → a ≤ 1048576 → ∃ r, (0 ≤ r → (qsum (l.drop j) : Int) ≤ a) ∧ Ev (fun k => laws_szQuestionS.l0 k l a (j : Int)) r := by
   intro n
   induction n with
   | zero =>
    intro j hj a ha0 ha1
    have hj' : j = l.length := by omega
    refine ⟨a, fun _ => by rw [hj', List.drop_length]; simpa [qsum] using ha0, Ev.succ ?_⟩
    have h1 : ((j : Int) < (l.length : Int)) = False := eq_false (by omega)
    simp only [laws_szQuestionS.l0, h1, if_false]
    exact Ev.now _
   | succ n ih =>
    intro j hj a ha0 ha1
    have hlt : j < l.length := by omega
    have h1 : ((j : Int) < (l.length : Int)) = True := eq_true (by omega)
    have hg : l.getD j z69 = l[j] := by rw [List.getD_eq_getElem?_getD, List.getElem?_eq_getElem hlt]; rfl
    have hy := hz l[j] (List.getElem_mem hlt)
    have hb : l[j].f1.length * 8 ≤ 140737488351232 := hy.2.1
    have hd : qsum (l.drop j) = l[j].f1.length + qsum (l.drop (j + 1)) := by rw [List.drop_eq_getElem_cons hlt]; rfl
    by_cases hc : a - (l[j].f1.length : Int) < 0
    ·refine ⟨-1, fun h => absurd h (by decide), Ev.succ ?_⟩
     simp only [laws_szQuestionS.l0, h1, if_true, nat_nonneg, rdqL, hg, laws_szQuestion.f, laws_szIntS.f, wrap_id (x := a - (l[j].f1.length : Int)) (by omega) (by omega), eq_true hc, Option.bind_some, show ((-1 : Int) < 0) = True from eq_true (by decide)]
     exact Ev.now _
    ·obtain ⟨r, h3, h4⟩ := ih (j + 1) (by omega) (a - (l[j].f1.length : Int)) (by omega) (by omega)
     refine ⟨r, fun h => by have := h3 h; rw [hd]; omega, Ev.succ ?_⟩
     simp only [laws_szQuestionS.l0, h1, if_true, nat_nonneg, rdqL, hg, laws_szQuestion.f, laws_szIntS.f, wrap_id (x := a - (l[j].f1.length : Int)) (by omega) (by omega), eq_false hc, if_false, Option.bind_some, wrap_succ (show j < 4611686018427387904 by omega)]
     exact h4
  obtain ⟨r, h3, h4⟩ := key l.length 0 (by omega) (A - (l.length : Int)) (by omega) (by omega)
  refine ⟨r, fun h => by have := h3 h; simp only [List.drop_zero] at this; omega, ?_⟩
  simp only [eq_false h0, if_false]
  exact h4
theorem qsz_map (l : List S69) (h : qsum l ≤ 1048576) : QSz (l.map qconv) := by
 intro q hq
 obtain ⟨x, hx, rfl⟩ := List.mem_map.1 hq
 have := qsum_mem hx
 show x.f1.length ≤ 1048576
 omega
/-- Right and wrong answers, from place j on. -/
def scoreD (l : List S28) (a : List Int) : Nat → Nat → Int → Int → Int × Int
 | 0, _, r, w => (r, w)
 | d + 1, j, r, w => if rightAt l a j then scoreD l a d (j + 1) (r + 1) w else if 0 ≤ a.getD j 0 then scoreD l a d (j + 1) r (w + 1) else scoreD l a d (j + 1) r w
theorem specScore_l0 (l : List S28) (a : List Int) (hz : QSz l) (h : ansB l a = true) : ∀ d j (r w : Int), j + d = l.length → 0 ≤ r → 0 ≤ w → r ≤ j → w ≤ j → Ev (fun k => spec_exScore.l0 k a r w l (l.length : Int) (j : Int)) (scoreD l a d j r w) := by
 obtain ⟨h20, hla, h3⟩ := ansB_facts h
 intro d
 induction d with
 | zero =>
  intro j r w hj _ _ _ _
  refine Ev.succ ?_
  have g1 : ((j : Int) < (l.length : Int)) = False := eq_false (by omega)
  simp only [spec_exScore.l0, g1, if_false, scoreD]
  exact Ev.now _
 | succ d ih =>
  intro j r w hj hr hw hr2 hw2
  refine Ev.succ ?_
  have hlt : j < l.length := by omega
  have g1 : ((j : Int) < (l.length : Int)) = True := eq_true (by omega)
  have g2 : ((j : Int) < (a.length : Int)) = True := eq_true (by omega)
  have hq := qsz_at hz hlt
  obtain ⟨h4, h5, h6⟩ := h3 j hlt
  have hi := rightAt_iff l a h j hlt
  simp only [spec_exScore.l0, g1, g2, if_true, nat_nonneg, rdq, rdJ, wrap_succ (show j < 4611686018427387904 by omega), scoreD]
  by_cases hm : a.getD j 0 = -1
  ·have hra : rightAt l a j = false := by
    rw [← Bool.not_eq_true, ← hi, hm]
    exact fun e => right_neg _ _ h4 e.symm
   have g3 : ¬ (0 ≤ a.getD j 0) := by omega
   simp only [eq_true hm, if_true, hra, Bool.false_eq_true, if_false, g3]
   exact ih (j + 1) r w (by omega) hr hw (by omega) (by omega)
  ·have g3 : 0 ≤ a.getD j 0 := by omega
   simp only [eq_false hm, if_false]
   refine Ev.bind (exRight_ev l j (by omega)) ?_
   by_cases hx : a.getD j 0 = idxD (qat l j).f1 (qat l j).f0 (qat l j).f1.length 0
   ·have hra := hi.1 hx
    simp only [eq_true hx, if_true, hra, wrap_id (x := r + 1) (by omega) (by omega)]
    exact ih (j + 1) (r + 1) w (by omega) (by omega) hw (by omega) (by omega)
   ·have hra : rightAt l a j = false := by
     rw [← Bool.not_eq_true, ← hi]
     exact hx
    simp only [eq_false hx, if_false, hra, Bool.false_eq_true, g3, if_true, wrap_id (x := w + 1) (by omega) (by omega)]
    exact ih (j + 1) r (w + 1) (by omega) hr (by omega) (by omega) (by omega)
theorem implScore_l0 (l : List S28) (a : List Int) (hz : QSz l) (h : ansB l a = true) : ∀ d j (r w : Int), j + d = l.length → 0 ≤ r → 0 ≤ w → r ≤ j → w ≤ j → Ev (fun k => impl_ScoreOf.l0 k a r w l (l.length : Int) (j : Int)) ((scoreD l a d j r w).1, (scoreD l a d j r w).2, true) := by
 obtain ⟨h20, hla, h3⟩ := ansB_facts h
 intro d
 induction d with
 | zero =>
  intro j r w hj _ _ _ _
  refine Ev.succ ?_
  have g1 : ((j : Int) < (l.length : Int)) = False := eq_false (by omega)
  simp only [impl_ScoreOf.l0, g1, if_false, scoreD]
  exact Ev.now _
 | succ d ih =>
  intro j r w hj hr hw hr2 hw2
  refine Ev.succ ?_
  have hlt : j < l.length := by omega
  have g1 : ((j : Int) < (l.length : Int)) = True := eq_true (by omega)
  have g2 : ((j : Int) < (a.length : Int)) = True := eq_true (by omega)
  simp only [impl_ScoreOf.l0, g1, g2, if_true, nat_nonneg, rdq, rdJ, wrap_succ (show j < 4611686018427387904 by omega), isRight_eq l a h j hlt, Option.bind_some, scoreD, wrap_id (x := r + 1) (by omega) (by omega), wrap_id (x := w + 1) (by omega) (by omega)]
  rcases Bool.eq_false_or_eq_true (rightAt l a j) with hra | hra
  ·simp only [hra, if_true]
   exact ih (j + 1) (r + 1) w (by omega) (by omega) hw (by omega) (by omega)
  ·simp only [hra, Bool.false_eq_true, if_false]
   by_cases g3 : 0 ≤ a.getD j 0
   ·simp only [ge_iff_le, g3, if_true]
    exact ih (j + 1) r (w + 1) (by omega) hr (by omega) (by omega) (by omega)
   ·simp only [ge_iff_le, g3, if_false]
    exact ih (j + 1) r w (by omega) hr hw (by omega) (by omega)
def scoreR (l : List S28) (a : List Int) : Int × Int × Bool := if ansB l a then ((scoreD l a l.length 0 0 0).1, (scoreD l a l.length 0 0 0).2, true) else (0, 0, false)
theorem implScoreOf_ev (l : List S28) (a : List Int) (hl : l.length ≤ 1048576) (ha : a.length ≤ 1048576) (hz : QSz l) : Ev (fun k => impl_ScoreOf.f k l a) (scoreR l a) := by
 unfold impl_ScoreOf.f scoreR
 refine Ev.bind (areAnswered_ev l a hl ha hz) ?_
 rcases Bool.eq_false_or_eq_true (ansB l a) with h | h
 ·simp only [h, if_true]
  exact implScore_l0 l a hz h l.length 0 0 0 (by omega) (by omega) (by omega) (by omega) (by omega)
 ·simp only [h, Bool.false_eq_true, if_false]
  exact Ev.now _
def wconv (x : S56) : S62 := ⟨x.f0, x.f1, x.f2⟩
theorem toWordS_ev (l : List S56) (hl : l.length * 48 ≤ 140737488351232) (hz : ∀ y, y ∈ l → B56 y) : Ev (fun k => laws_toWordS.f k l) (l.map wconv) := by
 unfold laws_toWordS.f
 simp only [nat_nonneg, if_true, Int.toNat_natCast, show (l.length ≤ 5864062014805) = True from eq_true (by omega)]
 refine Ev.copy wconv l z56 z62 (fun k s j => laws_toWordS.l0 k l s j) ?_ ?_
 ·intro j s r hj hs h
  refine Ev.succ ?_
  have h1 : ((j : Int) < (l.length : Int)) = True := eq_true (by omega)
  have hy := hz (l.getD j z56) (by rw [List.getD_eq_getElem?_getD, List.getElem?_eq_getElem hj]; exact List.getElem_mem hj)
  simp only [laws_toWordS.l0, h1, if_true, nat_nonneg, hs, Int.toNat_natCast, wrap_succ (show j < 4611686018427387904 by omega), rdwL]
  unfold laws_toWord.f
  refine Ev.bind (Ev.bind (toIntS_ev _ hy.2.1.1) (Ev.now _)) ?_
  exact h
 ·intro s hs
  refine Ev.succ ?_
  simp only [laws_toWordS.l0, Int.lt_irrefl, if_false]
  exact Ev.now _
theorem eqWordS_ev (l : List S62) (hl : l.length < 4611686018427387904) (hz : WSz l) : Ev (fun k => laws_eqWordS.f k l l) true := by
 unfold laws_eqWordS.f
 simp only [if_true]
 exact Ev.upto (L := fun k j => laws_eqWordS.l0 k l l (j : Int)) (r := true) (n := l.length)
  (by
   refine Ev.succ ?_
   simp only [laws_eqWordS.l0, Int.lt_irrefl, if_false]
   exact Ev.now _)
  (by
   intro j hj h
   refine Ev.succ ?_
   have h1 : ((j : Int) < (l.length : Int)) = True := eq_true (by omega)
   have := wsz_at hz hj
   simp only [laws_eqWordS.l0, h1, if_true, nat_nonneg, wrap_succ (show j < 4611686018427387904 by omega), rdw]
   unfold laws_eqWord.f
   simp only [if_true]
   refine Ev.bind (Ev.bind (eqIntS_ev _ (by omega)) (by simp only [if_true]; exact Ev.now _)) ?_
   simp only [if_true]
   exact h)
  0 (Nat.zero_le _)
/-- How many numbers and bytes there are in all. -/
def wsum : List S56 → Nat
 | [] => 0
 | x :: l => x.f0.size + x.f1.length + wsum l
theorem wsum_mem : ∀ {l : List S56} {x}, x ∈ l → x.f0.size + x.f1.length ≤ wsum l
 | y :: l, x, h => by
  rcases List.mem_cons.1 h with rfl | h
  ·simp [wsum]
  ·have := wsum_mem h
   simp only [wsum]
   omega
theorem szWord_eq (x : S56) (a : Int) (h0 : x.f0.size ≤ 140737488351232) (h1 : x.f1.length * 8 ≤ 140737488351232) (ha0 : 0 ≤ a) (ha1 : a ≤ 1048576) : laws_szWord.f x.f0 x.f1 x.f2 a = some (if a - (x.f0.size : Int) - (x.f1.length : Int) < 0 then -1 else a - (x.f0.size : Int) - (x.f1.length : Int)) := by
 unfold laws_szWord.f laws_szIntS.f
 rw [wrap_id (x := a - (x.f0.size : Int)) (by omega) (by omega), wrap_id (x := a - (x.f0.size : Int) - (x.f1.length : Int)) (by omega) (by omega)]
 by_cases h2 : a - (x.f0.size : Int) < 0
 ·simp only [eq_true h2, if_true, show (a - (x.f0.size : Int) - (x.f1.length : Int) < 0) = True from eq_true (by omega)]
 ·by_cases h3 : a - (x.f0.size : Int) - (x.f1.length : Int) < 0
  ·simp only [eq_false h2, eq_true h3, if_true, if_false, Option.bind_some, show ((-1 : Int) < 0) = True from eq_true (by decide)]
  ·simp only [eq_false h2, eq_false h3, if_false, Option.bind_some]
theorem szWordS_ev (l : List S56) (hl : l.length * 48 ≤ 140737488351232) (hz : ∀ y, y ∈ l → B56 y) : ∃ r, (0 ≤ r → l.length + wsum l ≤ 1048576 ∧ r ≤ 1048576) ∧ Ev (fun k => laws_szWordS.f k l 1048576) r := by
 unfold laws_szWordS.f
 rw [wrap_id (x := 1048576 - (l.length : Int)) (by omega) (by omega)]
 by_cases h0 : (1048576 : Int) - l.length < 0
 ·refine ⟨-1, fun h => absurd h (by decide), ?_⟩
  simp only [eq_true h0, if_true]
  exact Ev.now _
 ·have key : ∀ n j, j + n = l.length → ∀ a : Int, 0 ≤ a → a ≤ 1048576 → ∃ r, (0 ≤ r → (wsum (l.drop j) : Int) ≤ a ∧ r ≤ 1048576) ∧ Ev (fun k => laws_szWordS.l0 k l a (j : Int)) r := by
   intro n
   induction n with
   | zero =>
    intro j hj a ha0 ha1
    have hj' : j = l.length := by omega
    refine ⟨a, fun _ => ⟨by rw [hj', List.drop_length]; simpa [wsum] using ha0, ha1⟩, Ev.succ ?_⟩
    have h1 : ((j : Int) < (l.length : Int)) = False := eq_false (by omega)
    simp only [laws_szWordS.l0, h1, if_false]
    exact Ev.now _
   | succ n ih =>
    intro j hj a ha0 ha1
    have hlt : j < l.length := by omega
    have h1 : ((j : Int) < (l.length : Int)) = True := eq_true (by omega)
    have hg : l.getD j z56 = l[j] := by rw [List.getD_eq_getElem?_getD, List.getElem?_eq_getElem hlt]; rfl
    have hy := hz l[j] (List.getElem_mem hlt)
    have hd : wsum (l.drop j) = l[j].f0.size + l[j].f1.length + wsum (l.drop (j + 1)) := by rw [List.drop_eq_getElem_cons hlt]; rfl
    by_cases hc : a - (l[j].f0.size : Int) - (l[j].f1.length : Int) < 0
    ·refine ⟨-1, fun h => absurd h (by decide), Ev.succ ?_⟩
     simp only [laws_szWordS.l0, h1, if_true, nat_nonneg, rdwL, hg, szWord_eq l[j] a hy.1 hy.2.1.1 ha0 ha1, eq_true hc, Option.bind_some, show ((-1 : Int) < 0) = True from eq_true (by decide)]
     exact Ev.now _
    ·obtain ⟨r, h3, h4⟩ := ih (j + 1) (by omega) (a - (l[j].f0.size : Int) - (l[j].f1.length : Int)) (by omega) (by omega)
     refine ⟨r, fun h => ⟨by have := (h3 h).1; rw [hd]; omega, (h3 h).2⟩, Ev.succ ?_⟩
     simp only [laws_szWordS.l0, h1, if_true, nat_nonneg, rdwL, hg, szWord_eq l[j] a hy.1 hy.2.1.1 ha0 ha1, eq_false hc, if_false, Option.bind_some, wrap_succ (show j < 4611686018427387904 by omega)]
     exact h4
  obtain ⟨r, h3, h4⟩ := key l.length 0 (by omega) (1048576 - (l.length : Int)) (by omega) (by omega)
  refine ⟨r, fun h => ⟨by have := (h3 h).1; simp only [List.drop_zero] at this; omega, (h3 h).2⟩, ?_⟩
  simp only [eq_false h0, if_false]
  exact h4
theorem wsz_map (l : List S56) (h : wsum l ≤ 1048576) : WSz (l.map wconv) := by
 intro q hq
 obtain ⟨x, hx, rfl⟩ := List.mem_map.1 hq
 have := wsum_mem hx
 exact ⟨by show x.f1.length ≤ 1048576; omega, by show x.f0.size ≤ 1048576; omega⟩
/-! lists of lists of numbers -/
theorem rdLL (l : List (List Int)) (j : Nat) : rd_L2 l (j : Int) = l.getD j [] := by simp [rd_L2]
theorem toIntSS_ev (l : List (List Int)) (hl : l.length * 24 ≤ 140737488351232) (hz : ∀ y, y ∈ l → y.length * 8 ≤ 140737488351232) : Ev (fun k => laws_toIntSS.f k l) l := by
 unfold laws_toIntSS.f
 simp only [nat_nonneg, if_true, Int.toNat_natCast, show (l.length ≤ 11728124029610) = True from eq_true (by omega)]
 have key := Ev.copy (fun x : List Int => x) l [] [] (fun k s j => laws_toIntSS.l0 k l s j)
  (by
   intro j s r hj hs h
   refine Ev.succ ?_
   have h1 : ((j : Int) < (l.length : Int)) = True := eq_true (by omega)
   have hy := hz (l.getD j []) (by rw [List.getD_eq_getElem?_getD, List.getElem?_eq_getElem hj]; exact List.getElem_mem hj)
   simp only [laws_toIntSS.l0, h1, if_true, nat_nonneg, hs, Int.toNat_natCast, wrap_succ (show j < 4611686018427387904 by omega), rdLL]
   exact Ev.bind (toIntS_ev _ hy) h)
  (by
   intro s hs
   refine Ev.succ ?_
   simp only [laws_toIntSS.l0, Int.lt_irrefl, if_false]
   exact Ev.now _)
 simpa using key
theorem eqIntSS_ev (l : List (List Int)) (hl : l.length < 4611686018427387904) (hz : ∀ y, y ∈ l → y.length ≤ 1048576) : Ev (fun k => laws_eqIntSS.f k l l) true := by
 unfold laws_eqIntSS.f
 simp only [if_true]
 exact Ev.upto (L := fun k j => laws_eqIntSS.l0 k l l (j : Int)) (r := true) (n := l.length)
  (by
   refine Ev.succ ?_
   simp only [laws_eqIntSS.l0, Int.lt_irrefl, if_false]
   exact Ev.now _)
  (by
   intro j hj h
   refine Ev.succ ?_
   have h1 : ((j : Int) < (l.length : Int)) = True := eq_true (by omega)
   have hy := hz (l.getD j []) (by rw [List.getD_eq_getElem?_getD, List.getElem?_eq_getElem hj]; exact List.getElem_mem hj)
   simp only [laws_eqIntSS.l0, h1, if_true, nat_nonneg, wrap_succ (show j < 4611686018427387904 by omega), rdLL]
   refine Ev.bind (eqIntS_ev _ (by omega)) ?_
   simp only [if_true]
   exact h)
  0 (Nat.zero_le _)
theorem szIntSS_ev (l : List (List Int)) (A : Int) (hA0 : 0 ≤ A) (hA1 : A ≤ 1048576) (hl : l.length * 24 ≤ 140737488351232) (hz : ∀ y, y ∈ l → y.length * 8 ≤ 140737488351232) : ∃ r, (0 ≤ r → l.length + l.flatten.length ≤ 1048576 ∧ r ≤ 1048576) ∧ Ev (fun k => laws_szIntSS.f k l A) r := by
 unfold laws_szIntSS.f
 rw [wrap_id (x := A - (l.length : Int)) (by omega) (by omega)]
 by_cases h0 : A - (l.length : Int) < 0
 ·refine ⟨-1, fun h => absurd h (by decide), ?_⟩
  simp only [eq_true h0, if_true]
  exact Ev.now _
 ·have key : ∀ n j, j + n = l.length → ∀ a : Int, 0 ≤ a → a ≤ 1048576 → ∃ r, (0 ≤ r → ((l.drop j).flatten.length : Int) ≤ a ∧ r ≤ 1048576) ∧ Ev (fun k => laws_szIntSS.l0 k l a (j : Int)) r := by
   intro n
   induction n with
   | zero =>
    intro j hj a ha0 ha1
    have hj' : j = l.length := by omega
    refine ⟨a, fun _ => ⟨by rw [hj', List.drop_length]; simpa using ha0, ha1⟩, Ev.succ ?_⟩
    have h1 : ((j : Int) < (l.length : Int)) = False := eq_false (by omega)
    simp only [laws_szIntSS.l0, h1, if_false]
    exact Ev.now _
   | succ n ih =>
    intro j hj a ha0 ha1
    have hlt : j < l.length := by omega
    have h1 : ((j : Int) < (l.length : Int)) = True := eq_true (by omega)
    have hg : l.getD j [] = l[j] := by rw [List.getD_eq_getElem?_getD, List.getElem?_eq_getElem hlt]; rfl
    have hy := hz l[j] (List.getElem_mem hlt)
    have hd : (l.drop j).flatten.length = l[j].length + (l.drop (j + 1)).flatten.length := by rw [List.drop_eq_getElem_cons hlt, List.flatten_cons, List.length_append]
    by_cases hc : a - (l[j].length : Int) < 0
    ·refine ⟨-1, fun h => absurd h (by decide), Ev.succ ?_⟩
     simp only [laws_szIntSS.l0, h1, if_true, nat_nonneg, rdLL, hg, laws_szIntS.f, wrap_id (x := a - (l[j].length : Int)) (by omega) (by omega), eq_true hc, Option.bind_some, show ((-1 : Int) < 0) = True from eq_true (by decide)]
     exact Ev.now _
    ·obtain ⟨r, h3, h4⟩ := ih (j + 1) (by omega) (a - (l[j].length : Int)) (by omega) (by omega)
     refine ⟨r, fun h => ⟨by have := (h3 h).1; rw [hd]; omega, (h3 h).2⟩, Ev.succ ?_⟩
     simp only [laws_szIntSS.l0, h1, if_true, nat_nonneg, rdLL, hg, laws_szIntS.f, wrap_id (x := a - (l[j].length : Int)) (by omega) (by omega), eq_false hc, if_false, Option.bind_some, wrap_succ (show j < 4611686018427387904 by omega)]
     exact h4
  obtain ⟨r, h3, h4⟩ := key l.length 0 (by omega) (A - (l.length : Int)) (by omega) (by omega)
  refine ⟨r, fun h => ⟨by have := (h3 h).1; simp only [List.drop_zero] at this; omega, (h3 h).2⟩, ?_⟩
  simp only [eq_false h0, if_false]
  exact h4
theorem flat_mem {l : List (List Int)} {y : List Int} (h : y ∈ l) : y.length ≤ l.flatten.length := by
 obtain ⟨a, b, rfl⟩ := List.append_of_mem h
 rw [List.flatten_append, List.flatten_cons, List.length_append, List.length_append]
 omega
end Go.Proofs.YtnafjfdalapegaaGreat.Pure
namespace Go.Proofs.YtnafjfdalapegaaGreat.Pure
open Go.RowKit Go.Proofs.YtnafjfdalapegaaGreat.Q Go.Proofs.YtnafjfdalapegaaGreatW.PrintWords Go.Proofs.YtnafjfdalapegaaGreatW.PrintLast

theorem scoreD_bounds (l : List S28) (a : List Int) : ∀ (d j : Nat) (r w : Int), 0 ≤ r → r ≤ (j : Int) → 0 ≤ (scoreD l a d j r w).1 ∧ (scoreD l a d j r w).1 ≤ j + d
 | 0, j, r, w, h0, h1 => by simp only [scoreD]; omega
 | d + 1, j, r, w, h0, h1 => by
  unfold scoreD
  split
  ·have := scoreD_bounds l a d (j + 1) (r + 1) w (by omega) (by omega); omega
  ·split
   ·have := scoreD_bounds l a d (j + 1) r (w + 1) h0 (by omega); omega
   ·have := scoreD_bounds l a d (j + 1) r w h0 (by omega); omega
def fairAll (ls : List (List Int)) (n : Int) (q : List S28) : Bool := q.all fun x => x.f1.all fun y => decide (y ∈ (ls.take n.toNat).flatten)
def nextL (l : List S62) (ls : List (List Int)) (n : Int) (q : List S28) (a : List Int) (p : Int) : Bool × Bool :=
 if (goodB l ls && inB n 0 ls.length) && (ansB q a && (inB p 0 100 && !((q.length : Int) == 0))) then (if fairAll ls n q then (if 100 * (scoreD q a q.length 0 0 0).1 ≥ p * (q.length : Int) then (decide (n < (ls.length : Int)), true) else (false, true)) else (false, false)) else (false, false)
theorem next_end (ls : List (List Int)) (n : Int) (q : List S28) (a : List Int) (p : Int) (h : ansB q a = true) (hp : inB p 0 100 = true) : (if (wrap64 (100 * (scoreD q a q.length 0 0 0).1)) ≥ (wrap64 (p * (q.length : Int))) then some (decide (n < (ls.length : Int)), true) else some (false, true)) = some (if 100 * (scoreD q a q.length 0 0 0).1 ≥ p * (q.length : Int) then (decide (n < (ls.length : Int)), true) else (false, true)) := by
 have h20 := (ansB_facts h).1
 have hb := scoreD_bounds q a q.length 0 0 0 (by omega) (by omega)
 have hp' := of_decide_eq_true hp
 have h1 : 0 ≤ p * (q.length : Int) := Int.mul_nonneg hp'.1 (by omega)
 have h2 : p * (q.length : Int) ≤ 100 * (q.length : Int) := Int.mul_le_mul_of_nonneg_right hp'.2 (by omega)
 rw [wrap_id (x := 100 * (scoreD q a q.length 0 0 0).1) (by omega) (by omega), wrap_id (x := p * (q.length : Int)) (by omega) (by omega)]
 split <;> rfl
theorem exScore_ev (q : List S28) (a : List Int) (hz : QSz q) (h : ansB q a = true) : Ev (fun k => spec_exScore.f k q a) (scoreD q a q.length 0 0 0) := by
 unfold spec_exScore.f
 exact specScore_l0 q a hz h q.length 0 0 0 (by omega) (by omega) (by omega) (by omega) (by omega)
theorem specNext_l0 (ls : List (List Int)) (n : Int) (q : List S28) (a : List Int) (p : Int) (hs : ls.flatten.length ≤ 1048576) (hl : ls.length ≤ 1048576) (h0 : 0 ≤ n) (h1 : n ≤ ls.length) (hz : QSz q) (hq : q.length ≤ 1048576) (h : ansB q a = true) (hp : inB p 0 100 = true) : ∀ d j, j + d = q.length → Ev (fun k => spec_NextLesson.l0 k ls n q a p q (q.length : Int) (j : Int)) (if (q.drop j).all (fun x => x.f1.all fun y => decide (y ∈ (ls.take n.toNat).flatten)) then (if 100 * (scoreD q a q.length 0 0 0).1 ≥ p * (q.length : Int) then (decide (n < (ls.length : Int)), true) else (false, true)) else (false, false)) := by
 intro d
 induction d with
 | zero =>
  intro j hj
  refine Ev.succ ?_
  have g1 : ((j : Int) < (q.length : Int)) = False := eq_false (by omega)
  rw [List.drop_of_length_le (by omega)]
  simp only [spec_NextLesson.l0, g1, if_false, List.all_nil, if_true]
  refine Ev.bind (exScore_ev q a hz h) ?_
  rw [next_end ls n q a p h hp]
  exact Ev.now _
 | succ d ih =>
  intro j hj
  refine Ev.succ ?_
  have hlt : j < q.length := by omega
  have g1 : ((j : Int) < (q.length : Int)) = True := eq_true (by omega)
  have hw := hz _ (List.getElem_mem hlt)
  obtain ⟨r, hr, hm, hk⟩ := exTaught_ev ls n hs hl h0 h1
  have e : (fun y : Int => decide (y ∈ r)) = fun y => decide (y ∈ (ls.take n.toNat).flatten) := by funext y; rw [decide_eq_decide]; exact hm y
  rw [List.drop_eq_getElem_cons hlt, List.all_cons]
  simp only [spec_NextLesson.l0, g1, if_true, nat_nonneg, rdq, qat_get q j hlt, wrap_succ (show j < 4611686018427387904 by omega)]
  refine Ev.bind hr ?_
  refine Ev.bind (exFair_ev r q[j].f0 q[j].f1 hk (by omega)) ?_
  rw [e]
  cases q[j].f1.all fun y => decide (y ∈ (ls.take n.toNat).flatten) with
  | true =>
   simp only [if_true, Bool.true_and]
   exact ih (j + 1) (by omega)
  | false =>
   simp only [Bool.false_eq_true, if_false, Bool.false_and]
   exact Ev.now _
theorem specNext_ev (l : List S62) (ls : List (List Int)) (n : Int) (q : List S28) (a : List Int) (p : Int) (hl0 : l.length ≤ 1048576) (hz : WSz l) (hs : ls.flatten.length ≤ 1048576) (hl : ls.length ≤ 1048576) (hq : q.length ≤ 1048576) (ha : a.length ≤ 1048576) (hqz : QSz q) : Ev (fun k => spec_NextLesson.f k l ls n q a p) (nextL l ls n q a p) := by
 unfold spec_NextLesson.f nextL
 have bad : Ev (fun k => spec_NextLesson.j0 k ls n q a p true) (false, false) := by
  refine Ev.succ ?_
  simp only [spec_NextLesson.j0, if_true]
  exact Ev.now _
 refine Ev.bind (exAsked_ev l ls n hl0 hz hs hl) ?_
 cases h1 : goodB l ls && inB n 0 ls.length with
 | false =>
  simp only [Bool.false_eq_true, if_false, Bool.false_and]
  exact bad
 | true =>
  simp only [if_true, Bool.true_and]
  refine Ev.bind (exAnswers_ev q a hq ha hqz) ?_
  cases h2 : ansB q a with
  | false =>
   simp only [Bool.false_eq_true, if_false, Bool.false_and]
   exact bad
  | true =>
   simp only [if_true, Bool.true_and, l1In_eq, Option.bind_some]
   cases h3 : inB p 0 100 with
   | false =>
    simp only [Bool.false_eq_true, if_false, Bool.false_and]
    exact bad
   | true =>
    simp only [if_true, Bool.true_and]
    rw [Bool.and_eq_true] at h1
    have hn := of_decide_eq_true h1.2
    cases h4 : ((q.length : Int) == 0) with
    | true =>
     simp only [Bool.not_true, Bool.false_eq_true, if_false]
     exact bad
    | false =>
     simp only [Bool.not_false, if_true]
     refine Ev.succ ?_
     simp only [spec_NextLesson.j0, Bool.false_eq_true, if_false]
     have := specNext_l0 ls n q a p hs hl hn.1 hn.2 hqz hq h2 h3 q.length 0 (by omega)
     rw [List.drop_zero] at this
     exact this
theorem implNext_ev (l : List S62) (ls : List (List Int)) (n : Int) (q : List S28) (a : List Int) (p : Int) (hl0 : l.length ≤ 1048576) (hz : WSz l) (hs : ls.flatten.length ≤ 1048576) (hl : ls.length ≤ 1048576) (hq : q.length ≤ 1048576) (ha : a.length ≤ 1048576) (hqz : QSz q) : Ev (fun k => impl_NextLesson.f k l ls n q a p) (nextL l ls n q a p) := by
 unfold impl_NextLesson.f nextL
 have bad : Ev (fun k => impl_NextLesson.j0 k q a p true ls n) (false, false) := by
  refine Ev.succ ?_
  simp only [impl_NextLesson.j0, if_true]
  exact Ev.now _
 refine Ev.bind (areGood_ev l ls hl0 hz hs hl) ?_
 cases goodB l ls with
 | false =>
  simp only [Bool.false_eq_true, if_false, Bool.false_and]
  exact bad
 | true =>
  simp only [if_true, Bool.true_and, within_eq, Option.bind_some]
  cases h1 : inB n 0 ls.length with
  | false =>
   simp only [Bool.false_eq_true, if_false, Bool.false_and]
   exact bad
  | true =>
   have hn := of_decide_eq_true h1
   simp only [if_true, Bool.true_and]
   refine Ev.bind (areAnswered_ev q a hq ha hqz) ?_
   cases h2 : ansB q a with
   | false =>
    simp only [Bool.false_eq_true, if_false, Bool.false_and]
    exact bad
   | true =>
    simp only [if_true, Bool.true_and]
    cases h3 : inB p 0 100 with
    | false =>
     simp only [Bool.not_false, Bool.false_and, Bool.false_eq_true, if_false]
     exact bad
    | true =>
     simp only [Bool.not_true, Bool.true_and]
     refine Ev.succ ?_
     by_cases h4 : (q.length : Int) = 0
     ·have h5 : ((q.length : Int) == 0) = true := by simpa using h4
      simp only [impl_NextLesson.j0, Bool.false_eq_true, if_false, eq_true h4, if_true, h5, Bool.not_true]
      exact Ev.now _
     ·have h5 : ((q.length : Int) == 0) = false := by simpa using h4
      simp only [impl_NextLesson.j0, Bool.false_eq_true, if_false, eq_false h4, h5, Bool.not_false, if_true]
      have hb := takeFlat ls n.toNat
      have hall : Ev (fun k => impl_NextLesson_1.f k q ls n) (fairAll ls n q) := by
       unfold impl_NextLesson_1.f fairAll
       refine allO_ev (fun x hx => ?_)
       unfold impl_NextLesson_1.p
       simp only [eq_true hn.1, eq_true hn.2, if_true]
       exact isFair_ev _ x.f0 x.f1 (by omega)
      refine Ev.bind hall ?_
      cases fairAll ls n q with
      | false =>
       simp only [Bool.false_eq_true, if_false]
       exact Ev.now _
      | true =>
       simp only [if_true]
       refine Ev.bind (implScoreOf_ev q a hq ha hqz) ?_
       unfold scoreR
       rw [if_pos h2]
       rw [next_end ls n q a p h2 h3]
       exact Ev.now _

theorem FnExactNextLesson : laws_FnExactNextLesson.Pure := by
 intro l ls n q a p h hz h2 hz2 _ h3 hz3 ha _ _
 refine Ev.rounds ?_
 unfold laws_FnExactNextLesson.f
 by_cases h00 : (a.length : Int) > 1048576
 ·simp only [eq_true h00, if_true]
  exact Ev.now _
 simp only [eq_false h00, if_false]
 obtain ⟨r, hb, hr⟩ := szWordS_ev l h hz
 refine Ev.bind hr ?_
 by_cases h0 : r < 0
 ·simp only [eq_true h0, if_true]
  exact Ev.now _
 simp only [eq_false h0, if_false]
 obtain ⟨hb1, hb2⟩ := hb (by omega)
 have hy : ∀ y, y ∈ ls → y.length * 8 ≤ 140737488351232 := fun y hy => (hz2 y hy).1
 obtain ⟨r2, hc, hr2⟩ := szIntSS_ev ls r (by omega) hb2 h2 hy
 refine Ev.bind hr2 ?_
 by_cases h1 : r2 < 0
 ·simp only [eq_true h1, if_true]
  exact Ev.now _
 simp only [eq_false h1, if_false]
 obtain ⟨hc1, hc2⟩ := hc (by omega)
 obtain ⟨r3, hd, hr3⟩ := szQuestionA_ev q r2 (by omega) hc2 h3 hz3
 refine Ev.bind hr3 ?_
 by_cases h5 : r3 < 0
 ·simp only [eq_true h5, if_true]
  exact Ev.now _
 simp only [eq_false h5, if_false]
 have hd1 := hd (by omega)
 have hk : (l.map wconv).length ≤ 1048576 := by rw [List.length_map]; omega
 have hs := wsz_map l (by omega)
 have hqk : (q.map qconv).length ≤ 1048576 := by rw [List.length_map]; omega
 have hqs := qsz_map q (by omega)
 refine Ev.bind (toWordS_ev l h hz) ?_
 refine Ev.bind (toIntSS_ev ls h2 hy) ?_
 refine Ev.bind (toQuestionS_ev q h3 hz3) ?_
 refine Ev.bind (toIntS_ev a ha) ?_
 refine Ev.bind (specNext_ev _ ls n _ a p hk hs (by omega) (by omega) hqk (by omega) hqs) ?_
 refine Ev.bind (toWordS_ev l h hz) ?_
 refine Ev.bind (toIntSS_ev ls h2 hy) ?_
 refine Ev.bind (toQuestionS_ev q h3 hz3) ?_
 refine Ev.bind (toIntS_ev a ha) ?_
 refine Ev.bind (implNext_ev _ ls n _ a p hk hs (by omega) (by omega) hqk (by omega) hqs) ?_
 simp only [if_true]
 refine Ev.bind (toWordS_ev l h hz) ?_
 refine Ev.bind (eqWordS_ev _ (by omega) hs) ?_
 simp only [if_true]
 refine Ev.bind (toIntSS_ev ls h2 hy) ?_
 refine Ev.bind (eqIntSS_ev ls (by omega) (fun y hy => by have := flat_mem hy; omega)) ?_
 simp only [if_true]
 refine Ev.bind (toQuestionS_ev q h3 hz3) ?_
 refine Ev.bind (eqQuestionS_ev _ (by omega) hqs) ?_
 simp only [if_true]
 refine Ev.bind (toIntS_ev a ha) ?_
 refine Ev.bind (eqIntS_ev _ (by omega)) ?_
 simp only [if_true]
 exact Ev.now _
end Go.Proofs.YtnafjfdalapegaaGreat.Pure
