/- For every list of cards and every day, the program's DueCards returns what the reference's DueCards returns, leaves the list alone, and hands back memory of its own. No condition. -/
import Derived.Test.YtnkichilpildeaaQBounds
import Derived.Test.YtnkichilpildeaaQImplAreCards
import Derived.Test.YtnkichilpildeaaQImplDueCards
import Derived.Test.YtnkichilpildeaaQImplHasOnly
import Derived.Test.YtnkichilpildeaaQImplIsCard
import Derived.Test.YtnkichilpildeaaQImplIsFrame
import Derived.Test.YtnkichilpildeaaQImplIsGloss
import Derived.Test.YtnkichilpildeaaQImplIsWordOf
import Derived.Test.YtnkichilpildeaaQImplWithin
import Derived.Test.YtnkichilpildeaaQLawsEqCard
import Derived.Test.YtnkichilpildeaaQLawsEqCardS
import Derived.Test.YtnkichilpildeaaQLawsEqStringS
import Derived.Test.YtnkichilpildeaaQLawsFnExactDueCards
import Derived.Test.YtnkichilpildeaaQLawsHeldStringS
import Derived.Test.YtnkichilpildeaaQLawsMarkCardS
import Derived.Test.YtnkichilpildeaaQLawsMarkStringS
import Derived.Test.YtnkichilpildeaaQLawsMarkText
import Derived.Test.YtnkichilpildeaaQLawsSzCard
import Derived.Test.YtnkichilpildeaaQLawsSzCardS
import Derived.Test.YtnkichilpildeaaQLawsToCard
import Derived.Test.YtnkichilpildeaaQLawsToCardS
import Derived.Test.YtnkichilpildeaaQSpecDueCards
import Derived.Test.YtnkichilpildeaaQSpecFsWord
import Derived.Test.YtnkichilpildeaaQSpecL1In
import Derived.Test.YtnkichilpildeaaQSpecRpDay
import Derived.Test.YtnkichilpildeaaQSpecRpGood
import Derived.Test.YtnkichilpildeaaQSpecRpOne
import Derived.Test.YtnkichilpildeaaQStringsIndexByte
import Derived.Test.YtnkichilpildeaaQ0
import Derived.Test.YtnkichilpildeaaWWords
import Derived.Lib.Bytealg
set_option linter.unusedVariables false
set_option linter.unusedSimpArgs false
namespace Go.Proofs.Ytnkichilpildeaa.Pure
open Go.RowKit Go.Proofs.Ytnkichilpildeaa.Q Go.Proofs.YtnkichilpildeaaW.PrintLast Go.Proofs.YtnkichilpildeaaW.PrintWords
theorem Ev.succ {α : Type} {g : Nat → Option α} {r : α} (h : Ev (fun k => g (k + 1)) r) : Ev g r := Ev.step (fun _ => rfl) h
theorem Ev.k {α : Type} {g : Nat → Option α} {o : Option α} {r : α} (hg : ∀ k, g k = o) (h : o = some r) : Ev g r := ⟨0, fun k _ => (hg k).trans h⟩
theorem Ev.eq {α : Type} {g : Nat → Option α} {r r' : α} (h : Ev g r) (e : r = r') : Ev g r' := e ▸ h
/-- From round i up to round n. -/
theorem Ev.upto {β : Type} {L : Nat → Nat → Option β} {r : β} {n : Nat} (hend : Ev (fun k => L k n) r)
    (hstep : ∀ j, j < n → Ev (fun k => L k (j + 1)) r → Ev (fun k => L k j) r) : ∀ i, i ≤ n → Ev (fun k => L k i) r := by
  intro i hi
  obtain ⟨d, hd⟩ : ∃ d, n = i + d := ⟨n - i, by omega⟩
  induction d generalizing i with
  | zero => simp at hd; subst hd; exact hend
  | succ d ih => exact hstep i (by omega) (ih (i + 1) (by omega) (by omega))
/-- A loop that ends early where P fails. -/
theorem Ev.all {β : Type} {L : Nat → Nat → Option β} {P : Nat → Bool} {n : Nat} {a b : β} (hend : Ev (fun k => L k n) a)
    (hyes : ∀ j r, j < n → P j = true → Ev (fun k => L k (j + 1)) r → Ev (fun k => L k j) r) (hno : ∀ j, j < n → P j = false → Ev (fun k => L k j) b) :
    ∀ i, i ≤ n → Ev (fun k => L k i) (if (List.range' i (n - i)).all P then a else b) := by
  intro i hi
  obtain ⟨d, hd⟩ : ∃ d, n = i + d := ⟨n - i, by omega⟩
  induction d generalizing i with
  | zero => simp at hd; subst hd; simpa using hend
  | succ d ih =>
    have h1 : n - i = (n - (i + 1)) + 1 := by omega
    rw [h1, List.range'_succ]
    simp only [List.all_cons]
    rcases Bool.eq_false_or_eq_true (P i) with hP | hP
    · simp only [hP, Bool.true_and]
      exact hyes i _ (by omega) hP (ih (i + 1) (by omega) (by omega))
    · simpa [hP] using hno i (by omega) hP
theorem Ev.all0 {β : Type} {L : Nat → Nat → Option β} {P : Nat → Bool} {n : Nat} {a b : β} (hend : Ev (fun k => L k n) a)
    (hyes : ∀ j r, j < n → P j = true → Ev (fun k => L k (j + 1)) r → Ev (fun k => L k j) r) (hno : ∀ j, j < n → P j = false → Ev (fun k => L k j) b) :
    Ev (fun k => L k 0) (if (List.range n).all P then a else b) := by
  have := Ev.all hend hyes hno 0 (Nat.zero_le _)
  rwa [Nat.sub_zero, ← List.range_eq_range'] at this

theorem wrap_id {x : Int} (h0 : -9223372036854775808 ≤ x) (h1 : x ≤ 9223372036854775807) : wrap64 x = x := by
  unfold wrap64
  omega
theorem wrap_succ {n : Nat} (h : n < 4611686018427387904) : wrap64 ((n : Int) + 1) = ((n + 1 : Nat) : Int) := by
  rw [wrap_id (by omega) (by omega)]
  omega
theorem wrap_pred {n : Nat} (h0 : 0 < n) (h : n < 4611686018427387904) : wrap64 ((n : Int) - 1) = ((n - 1 : Nat) : Int) := by
  rw [wrap_id (by omega) (by omega)]
  omega
theorem nat_nonneg (n : Nat) : (0 ≤ (n : Int)) = True := eq_true (Int.natCast_nonneg n)
theorem getD_map {α β : Type} (f : α → β) (l : List α) (i : Nat) (d : α) (e : β) (h : i < l.length) : (l.map f).getD i e = f (l.getD i d) := by
  simp [List.getD_eq_getElem?_getD, List.getElem?_eq_getElem h]

/-- A copy, element by element, into a row that was made. -/
theorem Ev.copy {α β : Type} (f : α → β) (l : List α) (za : α) (zb : β) (L : Nat → List β → Int → Option (List β))
    (hstep : ∀ (j : Nat) (s r : List β), j < l.length → s.length = l.length → Ev (fun k => L k (s.set j (f (l.getD j za))) ((j + 1 : Nat) : Int)) r → Ev (fun k => L k s (j : Int)) r)
    (hend : ∀ s : List β, s.length = l.length → Ev (fun k => L k s (l.length : Int)) s) : Ev (fun k => L k (List.replicate l.length zb) 0) (l.map f) := by
  have key := Ev.upto (L := fun k j => L k ((l.map f).take j ++ List.replicate (l.length - j) zb) (j : Int)) (r := l.map f) (n := l.length)
    (by
      have h := hend ((l.map f).take l.length ++ List.replicate (l.length - l.length) zb) (by simp)
      refine Ev.eq h ?_
      rw [Nat.sub_self, List.replicate_zero, List.append_nil, List.take_of_length_le (by simp)])
    (by
      intro j hj h
      have hlen : ((l.map f).take j ++ List.replicate (l.length - j) zb).length = l.length := by simp; omega
      refine hstep j _ _ hj hlen ?_
      have e : ((l.map f).take j ++ List.replicate (l.length - j) zb).set j (f (l.getD j za)) = (l.map f).take (j + 1) ++ List.replicate (l.length - (j + 1)) zb := by
        have e1 : l.length - j = (l.length - (j + 1)) + 1 := by omega
        rw [e1, List.replicate_succ, List.set_append_right _ _ (by simp; omega)]
        have e2 : j - ((l.map f).take j).length = 0 := by simp; omega
        rw [e2, List.set_cons_zero, List.take_succ_eq_append_getElem (by simpa using hj)]
        simp [List.getD_eq_getElem?_getD, List.getElem?_eq_getElem hj]
      rw [e]
      exact h)
    0 (Nat.zero_le _)
  simpa using key
/-- What is left of a size, or that it was passed. -/
theorem Ev.sz {L : Nat → Nat → Int → Option Int} {n : Nat}
    (hstep : ∀ (j : Nat) (a : Int), j < n → 0 ≤ a → a ≤ 1048576 → (∃ a', 0 ≤ a' ∧ a' ≤ a ∧ ∀ r, Ev (fun k => L k (j + 1) a') r → Ev (fun k => L k j a) r) ∨ Ev (fun k => L k j a) (-1))
    (hend : ∀ a : Int, 0 ≤ a → a ≤ 1048576 → Ev (fun k => L k n a) a) :
    ∀ (j : Nat), j ≤ n → ∀ a : Int, 0 ≤ a → a ≤ 1048576 → ∃ r, r ≤ a ∧ Ev (fun k => L k j a) r := by
  intro j hj
  obtain ⟨d, hd⟩ : ∃ d, n = j + d := ⟨n - j, by omega⟩
  induction d generalizing j with
  | zero => simp at hd; subst hd; exact fun a h0 h1 => ⟨a, Int.le_refl _, hend a h0 h1⟩
  | succ d ih =>
    intro a h0 h1
    rcases hstep j a (by omega) h0 h1 with ⟨a', h2, h3, h4⟩ | h5
    · obtain ⟨r, h6, h7⟩ := ih (j + 1) (by omega) (by omega) a' h2 (by omega)
      exact ⟨r, by omega, h4 r h7⟩
    · exact ⟨-1, by omega, h5⟩
/-- The marks of a row: m a x is x marked from a on, c x how many marks that takes. -/
def markAll {β : Type} (m : Int → β → β) (c : β → Nat) : Int → List β → List β
  | _, [] => []
  | a, x :: r => m a x :: markAll m c (a + c x) r
def markEnd {β : Type} (c : β → Nat) : Int → List β → Int
  | a, [] => a
  | a, x :: r => markEnd c (a + c x) r
theorem markEnd_ge {β : Type} (c : β → Nat) : ∀ (l : List β) (a : Int), a ≤ markEnd c a l
  | [], a => Int.le_refl _
  | x :: r, a => by have := markEnd_ge c r (a + c x); simp only [markEnd]; omega
theorem markAll_length {β : Type} (m : Int → β → β) (c : β → Nat) : ∀ (l : List β) (a : Int), (markAll m c a l).length = l.length
  | [], _ => rfl
  | x :: r, a => by simp [markAll, markAll_length m c r]
theorem markEnd_const {β : Type} (n : Nat) : ∀ (l : List β) (a : Int), markEnd (fun _ => n) a l = a + n * l.length
  | [], a => by simp [markEnd]
  | x :: r, a => by
    simp only [markEnd, markEnd_const n r, List.length_cons]
    have : (n : Int) * ((r.length + 1 : Nat) : Int) = n * r.length + n := by rw [Int.natCast_add, Int.mul_add]; simp
    omega
theorem Ev.mark {β : Type} (m : Int → β → β) (c : β → Nat) (z : β) (B : Int) (N : Nat) (L : Nat → List β → Int → Int → Option (Int × List β))
    (hstep : ∀ (s : List β) (j : Nat) (a : Int) (r : Int × List β), j < N → s.length = N → 0 ≤ a → a + c (s.getD j z) ≤ B → Ev (fun k => L k (s.set j (m a (s.getD j z))) (a + c (s.getD j z)) ((j + 1 : Nat) : Int)) r → Ev (fun k => L k s a (j : Int)) r)
    (hend : ∀ (s : List β) (a : Int), s.length = N → Ev (fun k => L k s a (N : Int)) (a, s)) :
    ∀ (l : List β) (a : Int), l.length = N → 0 ≤ a → markEnd c a l ≤ B → Ev (fun k => L k l a 0) (markEnd c a l, markAll m c a l) := by
  have key : ∀ (l d : List β) (a : Int), d.length + l.length = N → 0 ≤ a → markEnd c a l ≤ B → Ev (fun k => L k (d ++ l) a (d.length : Int)) (markEnd c a l, d ++ markAll m c a l) := by
    intro l
    induction l with
    | nil =>
      intro d a hN _ _
      simp only [List.append_nil, markEnd, markAll]
      rw [List.length_nil, Nat.add_zero] at hN
      rw [hN]
      exact hend d a hN
    | cons x r ih =>
      intro d a hN h0 h1
      rw [List.length_cons] at hN
      have hx : (d ++ x :: r).getD d.length z = x := by simp [List.getD_eq_getElem?_getD]
      have hB := markEnd_ge c r (a + c x)
      simp only [markEnd] at h1
      refine hstep _ _ _ _ (by omega) (by simp; omega) h0 (by rw [hx]; omega) ?_
      rw [hx]
      have e : (d ++ x :: r).set d.length (m a x) = (d ++ [m a x]) ++ r := by
        rw [List.set_append_right _ _ (Nat.le_refl _), Nat.sub_self, List.set_cons_zero, List.append_assoc]
        rfl
      have h2 := ih (d ++ [m a x]) (a + c x) (by simp; omega) (by omega) h1
      rw [e]
      simpa [markAll, markEnd] using h2
  intro l a hN h0 h1
  simpa using key l [] a (by simpa using hN) h0 h1
theorem Ev.held {β : Type} (m : Int → β → β) (c : β → Nat) (z : β) (B : Int) (N : Nat) (L : Nat → List β → Int → Int → Option Int)
    (hstep : ∀ (s : List β) (j : Nat) (a : Int) (y : β) (r : Int), j < N → s.length = N → s.getD j z = m a y → 0 ≤ a → a + c y ≤ B → Ev (fun k => L k s (a + c y) ((j + 1 : Nat) : Int)) r → Ev (fun k => L k s a (j : Int)) r)
    (hend : ∀ (s : List β) (a : Int), s.length = N → Ev (fun k => L k s a (N : Int)) a) :
    ∀ (l : List β) (a : Int), l.length = N → 0 ≤ a → markEnd c a l ≤ B → Ev (fun k => L k (markAll m c a l) a 0) (markEnd c a l) := by
  have key : ∀ (l d : List β) (a : Int), d.length + l.length = N → 0 ≤ a → markEnd c a l ≤ B → Ev (fun k => L k (d ++ markAll m c a l) a (d.length : Int)) (markEnd c a l) := by
    intro l
    induction l with
    | nil =>
      intro d a hN _ _
      simp only [List.append_nil, markEnd, markAll]
      rw [List.length_nil, Nat.add_zero] at hN
      rw [hN]
      exact hend d a hN
    | cons x r ih =>
      intro d a hN h0 h1
      rw [List.length_cons] at hN
      have hB := markEnd_ge c r (a + c x)
      simp only [markEnd] at h1
      refine hstep _ _ _ x _ (by omega) (by simp [markAll, markAll_length]; omega) (by simp [markAll, List.getD_eq_getElem?_getD]) h0 (by omega) ?_
      have h2 := ih (d ++ [m a x]) (a + c x) (by simp; omega) (by omega) h1
      simpa [markAll, markEnd] using h2
  intro l a hN h0 h1
  simpa using key l [] a (by simpa using hN) h0 h1
theorem strOfNums_one (x : Int) : (strOfNums [x]).size = 1 := by simp [strOfNums, ByteArray.size]
theorem markText_l0 : ∀ (n : Nat) (a : Int) (s : ByteArray), 0 ≤ a → a.toNat ≤ n → a ≤ 1000000000 → s.size + n ≤ 2000000000 → ∃ r, Ev (fun k => laws_markText.l0 k a s) r := by
  intro n
  induction n with
  | zero =>
    intro a s h0 h1 h2 h3
    refine ⟨(⟨#[109]⟩ : ByteArray) ++ s, Ev.succ ?_⟩
    have h4 : (a > 0) = False := eq_false (by omega)
    have h5 : (1 + s.size ≤ 9223372036854775807) = True := eq_true (by omega)
    simp only [laws_markText.l0, h4, h5, if_true, if_false]
    exact Ev.now _
  | succ n ih =>
    intro a s h0 h1 h2 h3
    by_cases h : a > 0
    · have hd := Int.tdiv_eq_ediv_of_nonneg (b := 10) h0
      have h7 : Int.tdiv a 10 < a ∧ 0 ≤ Int.tdiv a 10 := by rw [hd]; omega
      have hx : (strOfNums [(wrap64 (48 + Int.tmod a 10)) % 256]).size = 1 := strOfNums_one _
      have h5 : ((strOfNums [(wrap64 (48 + Int.tmod a 10)) % 256]).size + s.size ≤ 9223372036854775807) = True := eq_true (by omega)
      obtain ⟨r, hr⟩ := ih (Int.tdiv a 10) (strOfNums [(wrap64 (48 + Int.tmod a 10)) % 256] ++ s) h7.2 (by omega) (by omega) (by rw [ByteArray.size_append]; omega)
      refine ⟨r, Ev.succ ?_⟩
      simp only [laws_markText.l0, eq_true h, h5, if_true, Option.bind_some, wrap_id (x := Int.tdiv a 10) (by omega) (by omega)]
      exact hr
    · refine ⟨(⟨#[109]⟩ : ByteArray) ++ s, Ev.succ ?_⟩
      have h5 : (1 + s.size ≤ 9223372036854775807) = True := eq_true (by omega)
      simp only [laws_markText.l0, eq_false h, h5, if_true, if_false]
      exact Ev.now _
theorem markText_some (a : Int) (ha : a ≤ 1000000000) : ∃ r, Ev (fun k => laws_markText.f k a) r := by
  unfold laws_markText.f
  by_cases h : a ≤ 0
  · simp only [eq_true h, if_true]
    exact ⟨_, Ev.now _⟩
  · simp only [eq_false h, if_false]
    exact markText_l0 a.toNat a _ (by omega) (Nat.le_refl _) ha (by simp [ByteArray.size]; omega)
/-- The mark's text. -/
noncomputable def mtext (a : Int) : ByteArray := @dite _ (∃ r, Ev (fun k => laws_markText.f k a) r) (Classical.propDecidable _) (fun h => Classical.choose h) (fun _ => ByteArray.empty)
theorem markText_ev (a : Int) (ha : a ≤ 1000000000) : Ev (fun k => laws_markText.f k a) (mtext a) := by
  unfold mtext
  rw [dif_pos (markText_some a ha)]
  exact Classical.choose_spec (markText_some a ha)
def inB (a b c : Int) : Bool := decide (b ≤ a ∧ a ≤ c)
theorem l1In_eq (a b c : Int) : spec_l1In.f a b c = some (inB a b c) := by
  unfold spec_l1In.f inB
  split <;> simp <;> omega
theorem within_eq (a b c : Int) : impl_within.f a b c = some (inB a b c) := by
  unfold impl_within.f inB
  split <;> simp <;> omega
def capAt (s : ByteArray) (j : Nat) : Bool := decide (65 ≤ bt s j ∧ bt s j ≤ 90)
def glossB (s : ByteArray) : Bool := inB s.size 1 8 && (List.range s.size).all (capAt s)
def caps : ByteArray := ⟨#[65, 66, 67, 68, 69, 70, 71, 72, 73, 74, 75, 76, 77, 78, 79, 80, 81, 82, 83, 84, 85, 86, 87, 88, 89, 90]⟩
theorem caps_all : ((List.range 256).all fun n => decide (Lib.indexByte caps.data.toList n.toUInt8 < 0) == !(decide (65 ≤ n ∧ n ≤ 90))) = true := by decide +kernel
theorem caps_index (b : Int) (h0 : 0 ≤ b) (h1 : b ≤ 255) : (Lib.indexByte caps.data.toList b.toNat.toUInt8 < 0) ↔ ¬ (65 ≤ b ∧ b ≤ 90) := by
  have h := List.all_eq_true.1 caps_all b.toNat (List.mem_range.2 (by omega))
  simp only [beq_iff_eq] at h
  by_cases hc : 65 ≤ b ∧ b ≤ 90
  · have h2 : decide (65 ≤ b.toNat ∧ b.toNat ≤ 90) = true := decide_eq_true (by omega)
    rw [h2] at h
    exact ⟨fun h3 => absurd h3 (of_decide_eq_false h), fun h3 => absurd hc h3⟩
  · have h2 : decide (65 ≤ b.toNat ∧ b.toNat ≤ 90) = false := decide_eq_false (by omega)
    rw [h2] at h
    exact ⟨fun _ => hc, fun _ => of_decide_eq_true h⟩
theorem hasOnly_ev (s : ByteArray) (hs : s.size < 4611686018427387904) : Ev (fun k => impl_hasOnly.f k s caps) ((List.range s.size).all (capAt s)) := by
  unfold impl_hasOnly.f
  refine Ev.eq (Ev.all0 (L := fun k j => impl_hasOnly.l0 k s caps (s.size : Int) (j : Int)) (P := capAt s) (n := s.size) (a := true) (b := false) ?_ ?_ ?_) (by split <;> simp_all)
  · refine Ev.succ ?_
    simp only [impl_hasOnly.l0, Int.lt_irrefl, if_false]
    exact Ev.now _
  · intro j r hj hP h
    refine Ev.succ ?_
    have h1 : ((j : Int) < (s.size : Int)) = True := eq_true (by omega)
    have hb := bt_range s (j : Int)
    have h2 : (Lib.indexByte caps.data.toList (bt s (j : Int)).toNat.toUInt8 < 0) = False := eq_false (fun hc => (caps_index _ hb.1 hb.2).1 hc (of_decide_eq_true hP))
    simp only [impl_hasOnly.l0, strings_IndexByte.f, Option.bind_some, h1, if_true, nat_nonneg, h2, if_false, wrap_succ (show j < 4611686018427387904 by omega)]
    exact h
  · intro j hj hP
    refine Ev.succ ?_
    have h1 : ((j : Int) < (s.size : Int)) = True := eq_true (by omega)
    have hb := bt_range s (j : Int)
    have h2 : (Lib.indexByte caps.data.toList (bt s (j : Int)).toNat.toUInt8 < 0) = True := eq_true ((caps_index _ hb.1 hb.2).2 (of_decide_eq_false hP))
    simp only [impl_hasOnly.l0, strings_IndexByte.f, Option.bind_some, h1, if_true, nat_nonneg, h2]
    exact Ev.now _
theorem isGloss_ev (s : ByteArray) (hs : s.size < 4611686018427387904) : Ev (fun k => impl_IsGloss.f k s) (glossB s) := by
  unfold impl_IsGloss.f impl_isWordOf.f glossB
  refine Ev.bind (a := inB s.size 1 8 && (List.range s.size).all (capAt s)) ?_ (Ev.now _)
  simp only [within_eq, Option.bind_some]
  rcases Bool.eq_false_or_eq_true (inB s.size 1 8) with h | h
  · simp only [h, if_true, Bool.true_and]
    exact Ev.bind (hasOnly_ev s hs) (Ev.now _)
  · simp only [h]
    exact Ev.now _
theorem fsWord_ev (s : ByteArray) (hs : s.size < 4611686018427387904) : Ev (fun k => spec_fsWord.f k s) (glossB s) := by
  unfold spec_fsWord.f
  refine Ev.eq (Ev.all0 (L := fun k j => spec_fsWord.l0 k s (j : Int)) (P := capAt s) (n := s.size) (a := inB s.size 1 8) (b := false) ?_ ?_ ?_) (by unfold glossB; split <;> simp_all)
  · refine Ev.succ ?_
    simp only [spec_fsWord.l0, Int.lt_irrefl, if_false, l1In_eq, Option.bind_some]
    exact Ev.now _
  · intro j r hj hP h
    refine Ev.succ ?_
    have h1 : ((j : Int) < (s.size : Int)) = True := eq_true (by omega)
    have hP' := of_decide_eq_true hP
    simp only [spec_fsWord.l0, h1, if_true, nat_nonneg, show (bt s (j : Int) < 65) = False from eq_false (by omega), show (bt s (j : Int) > 90) = False from eq_false (by omega), if_false, wrap_succ (show j < 4611686018427387904 by omega)]
    exact h
  · intro j hj hP
    refine Ev.succ ?_
    have h1 : ((j : Int) < (s.size : Int)) = True := eq_true (by omega)
    have hP' := of_decide_eq_false hP
    simp only [spec_fsWord.l0, h1, if_true, nat_nonneg]
    by_cases h2 : bt s (j : Int) < 65
    · simp only [eq_true h2, if_true]
      exact Ev.now _
    · simp only [eq_false h2, if_false, show (bt s (j : Int) > 90) = True from eq_true (by omega), if_true]
      exact Ev.now _
def cardB (g : ByteArray) (b d : Int) : Bool := glossB g && (inB b 0 5 && inB d 0 99999)
theorem isFrame_eq (d : Int) : impl_isFrame.f d = some (inB d 0 99999) := by
  unfold impl_isFrame.f
  simp only [within_eq, Option.bind_some]
theorem rpDay_eq (d : Int) : spec_rpDay.f d = some (inB d 0 99999) := by
  unfold spec_rpDay.f
  simp only [l1In_eq, Option.bind_some]
theorem isCard_ev (g : ByteArray) (b d : Int) (hs : g.size < 4611686018427387904) : Ev (fun k => impl_isCard.f k g b d) (cardB g b d) := by
  unfold impl_isCard.f cardB
  refine Ev.bind (isGloss_ev g hs) ?_
  simp only [within_eq, isFrame_eq, Option.bind_some]
  rcases Bool.eq_false_or_eq_true (glossB g) with h | h <;> rcases Bool.eq_false_or_eq_true (inB b 0 5) with h2 | h2 <;> simp only [h, h2] <;> exact Ev.now _
theorem rpOne_ev (g : ByteArray) (b d : Int) (hs : g.size < 4611686018427387904) : Ev (fun k => spec_rpOne.f k g b d) (cardB g b d) := by
  unfold spec_rpOne.f cardB
  refine Ev.bind (fsWord_ev g hs) ?_
  simp only [l1In_eq, rpDay_eq, Option.bind_some]
  rcases Bool.eq_false_or_eq_true (glossB g) with h | h <;> rcases Bool.eq_false_or_eq_true (inB b 0 5) with h2 | h2 <;> simp only [h, h2] <;> exact Ev.now _
def cat (l : List S73) (j : Nat) : S73 := l.getD j z73
theorem rdc (l : List S73) (j : Nat) : rd_T73 l (j : Int) = cat l j := by simp [rd_T73, cat]
theorem rdcL (l : List S71) (j : Nat) : rd_T71 l (j : Int) = l.getD j z71 := by simp [rd_T71]
def cOk (x : S73) : Bool := cardB x.f0 x.f1 x.f2
def cAt (l : List S73) (i : Nat) : Bool := cOk (cat l i) && (decide (i = 0) || Op.bytesLess (cat l (i - 1)).f0.toList (cat l i).f0.toList)
def cgoodB (l : List S73) : Bool := if (List.range l.length).all (cAt l) then decide (l.length ≤ 20) else false
/-- Every text of the cards is short enough. -/
def CSz (l : List S73) : Prop := ∀ i, i < l.length → (cat l i).f0.size ≤ 140737488351232

theorem rpGood_ev (l : List S73) (hl : l.length < 4611686018427387904) (hz : CSz l) : Ev (fun k => spec_rpGood.f k l) (cgoodB l) := by
  unfold spec_rpGood.f cgoodB
  refine Ev.all0 (L := fun k j => spec_rpGood.l0 k l l (l.length : Int) (j : Int)) (P := cAt l) (n := l.length) ?_ ?_ ?_
  · refine Ev.succ ?_
    simp only [spec_rpGood.l0, Int.lt_irrefl, if_false]
    refine Ev.eq (Ev.now _) ?_
    rw [decide_eq_decide]
    omega
  · intro j r hj hP h
    refine Ev.succ ?_
    have h1 : ((j : Int) < (l.length : Int)) = True := eq_true (by omega)
    have hsz := hz j hj
    simp only [cAt, Bool.and_eq_true, Bool.or_eq_true, decide_eq_true_eq, cOk] at hP
    simp only [spec_rpGood.l0, h1, if_true, nat_nonneg, rdc, wrap_succ (show j < 4611686018427387904 by omega)]
    refine Ev.bind (Ev.eq (rpOne_ev (cat l j).f0 (cat l j).f1 (cat l j).f2 (by omega)) hP.1) ?_
    by_cases h0 : j = 0
    · subst h0
      exact h
    · have h2 : ((j : Int) > 0) = True := eq_true (by omega)
      have h3 : (((j - 1 : Nat) : Int) < (l.length : Int)) = True := eq_true (by omega)
      have h4 := hP.2.resolve_left h0
      simp only [h2, if_true, wrap_pred (show 0 < j by omega) (show j < 4611686018427387904 by omega), nat_nonneg, h3, rdc, h4]
      exact h
  · intro j hj hP
    refine Ev.succ ?_
    have h1 : ((j : Int) < (l.length : Int)) = True := eq_true (by omega)
    have hsz := hz j hj
    simp only [cAt, cOk] at hP
    simp only [spec_rpGood.l0, h1, if_true, nat_nonneg, rdc, wrap_succ (show j < 4611686018427387904 by omega)]
    refine Ev.bind (rpOne_ev (cat l j).f0 (cat l j).f1 (cat l j).f2 (by omega)) ?_
    rcases Bool.eq_false_or_eq_true (cardB (cat l j).f0 (cat l j).f1 (cat l j).f2) with hk | hk
    · simp only [hk, if_true]
      simp only [hk, Bool.true_and, Bool.or_eq_false_iff, decide_eq_false_iff_not] at hP
      have h2 : ((j : Int) > 0) = True := eq_true (by omega)
      have h3 : (((j - 1 : Nat) : Int) < (l.length : Int)) = True := eq_true (by omega)
      simp only [h2, if_true, wrap_pred (show 0 < j by omega) (show j < 4611686018427387904 by omega), nat_nonneg, h3, rdc, hP.2]
      exact Ev.now _
    · simp only [hk]
      exact Ev.now _
theorem areCards_ev (l : List S73) (hl : l.length < 4611686018427387904) (hz : CSz l) : Ev (fun k => impl_AreCards.f k l) (cgoodB l) := by
  unfold impl_AreCards.f cgoodB
  refine Ev.all0 (L := fun k j => impl_AreCards.l0 k l l (l.length : Int) (j : Int)) (P := cAt l) (n := l.length) ?_ ?_ ?_
  · refine Ev.succ ?_
    simp only [impl_AreCards.l0, Int.lt_irrefl, if_false]
    refine Ev.eq (Ev.now _) ?_
    rw [decide_eq_decide]
    omega
  · intro j r hj hP h
    refine Ev.succ ?_
    have h1 : ((j : Int) < (l.length : Int)) = True := eq_true (by omega)
    have hsz := hz j hj
    simp only [cAt, Bool.and_eq_true, Bool.or_eq_true, decide_eq_true_eq, cOk] at hP
    simp only [impl_AreCards.l0, h1, if_true, nat_nonneg, rdc, wrap_succ (show j < 4611686018427387904 by omega)]
    refine Ev.bind (Ev.eq (isCard_ev (cat l j).f0 (cat l j).f1 (cat l j).f2 (by omega)) hP.1) ?_
    by_cases h0 : j = 0
    · subst h0
      exact h
    · have h2 : ((j : Int) > 0) = True := eq_true (by omega)
      have h3 : (((j - 1 : Nat) : Int) < (l.length : Int)) = True := eq_true (by omega)
      have h4 := hP.2.resolve_left h0
      simp only [h2, if_true, wrap_pred (show 0 < j by omega) (show j < 4611686018427387904 by omega), nat_nonneg, h3, rdc, h4]
      exact h
  · intro j hj hP
    refine Ev.succ ?_
    have h1 : ((j : Int) < (l.length : Int)) = True := eq_true (by omega)
    have hsz := hz j hj
    simp only [cAt, cOk] at hP
    simp only [impl_AreCards.l0, h1, if_true, nat_nonneg, rdc, wrap_succ (show j < 4611686018427387904 by omega)]
    refine Ev.bind (isCard_ev (cat l j).f0 (cat l j).f1 (cat l j).f2 (by omega)) ?_
    rcases Bool.eq_false_or_eq_true (cardB (cat l j).f0 (cat l j).f1 (cat l j).f2) with hk | hk
    · simp only [hk, if_true]
      simp only [hk, Bool.true_and, Bool.or_eq_false_iff, decide_eq_false_iff_not] at hP
      have h2 : ((j : Int) > 0) = True := eq_true (by omega)
      have h3 : (((j - 1 : Nat) : Int) < (l.length : Int)) = True := eq_true (by omega)
      simp only [h2, if_true, wrap_pred (show 0 < j by omega) (show j < 4611686018427387904 by omega), nat_nonneg, h3, rdc, hP.2]
      exact Ev.now _
    · simp only [hk]
      exact Ev.now _

def cconv (x : S71) : S73 := ⟨x.f0, x.f1, x.f2⟩
theorem toCardS_ev (l : List S71) (hl : l.length * 32 ≤ 140737488351232) : Ev (fun k => laws_toCardS.f k l) (l.map cconv) := by
  unfold laws_toCardS.f
  simp only [nat_nonneg, if_true, Int.toNat_natCast, show (l.length ≤ 8796093022208) = True from eq_true (by omega)]
  refine Ev.copy cconv l z71 z73 (fun k s j => laws_toCardS.l0 k l s j) ?_ ?_
  · intro j s r hj hs h
    refine Ev.succ ?_
    have h1 : ((j : Int) < (l.length : Int)) = True := eq_true (by omega)
    simp only [laws_toCardS.l0, laws_toCard.f, Option.bind_some, h1, if_true, nat_nonneg, hs, Int.toNat_natCast, wrap_succ (show j < 4611686018427387904 by omega), rdcL]
    exact h
  · intro s hs
    refine Ev.succ ?_
    simp only [laws_toCardS.l0, Int.lt_irrefl, if_false]
    exact Ev.now _
theorem eqCardS_ev (l : List S73) (hl : l.length < 4611686018427387904) : Ev (fun k => laws_eqCardS.f k l l) true := by
  unfold laws_eqCardS.f
  simp only [if_true]
  exact Ev.upto (L := fun k j => laws_eqCardS.l0 k l l (j : Int)) (r := true) (n := l.length)
    (by
      refine Ev.succ ?_
      simp only [laws_eqCardS.l0, Int.lt_irrefl, if_false]
      exact Ev.now _)
    (by
      intro j hj h
      refine Ev.succ ?_
      have h1 : ((j : Int) < (l.length : Int)) = True := eq_true (by omega)
      simp only [laws_eqCardS.l0, laws_eqCard.f, Option.bind_some, h1, if_true, nat_nonneg, wrap_succ (show j < 4611686018427387904 by omega)]
      exact h)
    0 (Nat.zero_le _)
theorem szCardS_ev (l : List S71) (hl : l.length * 32 ≤ 140737488351232) (hz : ∀ y, y ∈ l → B71 y) : ∃ r, (0 ≤ r → l.length ≤ 1048576) ∧ Ev (fun k => laws_szCardS.f k l 1048576) r := by
  unfold laws_szCardS.f
  rw [wrap_id (x := 1048576 - (l.length : Int)) (by omega) (by omega)]
  by_cases h0 : (1048576 : Int) - l.length < 0
  · refine ⟨-1, fun h => absurd h (by decide), ?_⟩
    simp only [eq_true h0, if_true]
    exact Ev.now _
  · obtain ⟨r, _, hr⟩ := Ev.sz (L := fun k j a => laws_szCardS.l0 k l a (j : Int)) (n := l.length)
      (by
        intro j a hj ha0 ha1
        have h1 : ((j : Int) < (l.length : Int)) = True := eq_true (by omega)
        have hy := hz (l.getD j z71) (by rw [List.getD_eq_getElem?_getD, List.getElem?_eq_getElem hj]; exact List.getElem_mem hj)
        have hs : (l.getD j z71).f0.size ≤ 140737488351232 := hy.1
        by_cases hc : a - ((l.getD j z71).f0.size : Int) < 0
        · refine .inr (Ev.succ ?_)
          simp only [laws_szCardS.l0, laws_szCard.f, h1, if_true, nat_nonneg, rdcL, wrap_id (x := a - ((l.getD j z71).f0.size : Int)) (by omega) (by omega), eq_true hc, Option.bind_some]
          exact Ev.now _
        · refine .inl ⟨a - ((l.getD j z71).f0.size : Int), by omega, by omega, fun r h => Ev.succ ?_⟩
          simp only [laws_szCardS.l0, laws_szCard.f, h1, if_true, nat_nonneg, rdcL, wrap_id (x := a - ((l.getD j z71).f0.size : Int)) (by omega) (by omega), eq_false hc, if_false, Option.bind_some, wrap_succ (show j < 4611686018427387904 by omega)]
          exact h)
      (by
        intro a _ _
        refine Ev.succ ?_
        simp only [laws_szCardS.l0, Int.lt_irrefl, if_false]
        exact Ev.now _)
      0 (Nat.zero_le _) (1048576 - (l.length : Int)) (by omega) (by omega)
    refine ⟨r, fun _ => by omega, ?_⟩
    simp only [eq_false h0, if_false]
    exact hr
theorem csz_map (l : List S71) (hz : ∀ y, y ∈ l → B71 y) : CSz (l.map cconv) := by
  intro i hi
  rw [List.length_map] at hi
  have hy := hz (l.getD i z71) (by rw [List.getD_eq_getElem?_getD, List.getElem?_eq_getElem hi]; exact List.getElem_mem hi)
  unfold cat
  rw [getD_map cconv l i z71 _ hi]
  exact hy.1
noncomputable def cmark (a : Int) (_ : S73) : S73 := ⟨mtext a, a + 1, a + 1 + 1⟩
noncomputable def markCards (a : Int) (l : List S73) : List S73 := markAll cmark (fun _ => 3) a l
theorem markCardS_ev (l : List S73) (a : Int) (h0 : 0 ≤ a) (ha : a + 3 * l.length ≤ 1000000000) : Ev (fun k => laws_markCardS.f k l a) (a + 3 * l.length, markCards a l) := by
  unfold laws_markCardS.f markCards
  have e : a + 3 * (l.length : Int) = markEnd (fun _ => 3) a l := by rw [markEnd_const]; omega
  rw [e]
  refine Ev.mark cmark (fun _ => 3) z73 1000000000 l.length (fun k s a j => laws_markCardS.l0 k s a j) ?_ ?_ l a rfl h0 (by rw [markEnd_const]; omega)
  · intro s j a r hj hs h0 h1 h
    refine Ev.succ ?_
    have h2 : ((j : Int) < (l.length : Int)) = True := eq_true (by omega)
    have h1 : a + 3 ≤ 1000000000 := h1
    have hg : ∀ v, rd_T73 (s.set j v) (j : Int) = v := by
      intro v
      rw [rdc, cat, List.getD_eq_getElem?_getD, List.getElem?_set_self (by omega)]
      rfl
    simp only [laws_markCardS.l0, hs, h2, if_true, nat_nonneg, Int.toNat_natCast, wrap_succ (show j < 4611686018427387904 by omega), wrap_id (x := a + 1) (by omega) (by omega), wrap_id (x := a + 1 + 1) (by omega) (by omega), wrap_id (x := a + 1 + 1 + 1) (by omega) (by omega), Option.bind_some, hg, List.set_set]
    refine Ev.bind (markText_ev a (by omega)) ?_
    have e3 : a + 1 + 1 + 1 = a + (3 : Nat) := by omega
    rw [e3]
    exact h
  · intro s a hs
    refine Ev.succ ?_
    simp only [laws_markCardS.l0, hs, Int.lt_irrefl, if_false]
    exact Ev.now _
theorem rdS (l : List ByteArray) (j : Nat) : rdOf ByteArray.empty l (j : Int) = l.getD j ByteArray.empty := by simp [rdOf]
theorem eqStringS_ev (l : List ByteArray) (hl : l.length < 4611686018427387904) : Ev (fun k => laws_eqStringS.f k l l) true := by
  unfold laws_eqStringS.f
  simp only [if_true]
  exact Ev.upto (L := fun k j => laws_eqStringS.l0 k l l (j : Int)) (r := true) (n := l.length)
    (by
      refine Ev.succ ?_
      simp only [laws_eqStringS.l0, Int.lt_irrefl, if_false]
      exact Ev.now _)
    (by
      intro j hj h
      refine Ev.succ ?_
      have h1 : ((j : Int) < (l.length : Int)) = True := eq_true (by omega)
      simp only [laws_eqStringS.l0, h1, if_true, nat_nonneg, wrap_succ (show j < 4611686018427387904 by omega)]
      exact h)
    0 (Nat.zero_le _)
noncomputable def smark (a : Int) (_ : ByteArray) : ByteArray := mtext a
noncomputable def markStrs (a : Int) (l : List ByteArray) : List ByteArray := markAll smark (fun _ => 1) a l
theorem markStringS_ev (l : List ByteArray) (a : Int) (h0 : 0 ≤ a) (ha : a + l.length ≤ 1000000000) : Ev (fun k => laws_markStringS.f k l a) (a + l.length, markStrs a l) := by
  unfold laws_markStringS.f markStrs
  have e : a + (l.length : Int) = markEnd (fun _ => 1) a l := by rw [markEnd_const]; omega
  rw [e]
  refine Ev.mark smark (fun _ => 1) ByteArray.empty 1000000000 l.length (fun k s a j => laws_markStringS.l0 k s a j) ?_ ?_ l a rfl h0 (by rw [markEnd_const]; omega)
  · intro s j a r hj hs h0 h1 h
    refine Ev.succ ?_
    have h2 : ((j : Int) < (l.length : Int)) = True := eq_true (by omega)
    have h1 : a + 1 ≤ 1000000000 := h1
    simp only [laws_markStringS.l0, hs, h2, if_true, nat_nonneg, Int.toNat_natCast, wrap_succ (show j < 4611686018427387904 by omega), wrap_id (x := a + 1) (by omega) (by omega)]
    refine Ev.bind (markText_ev a (by omega)) ?_
    exact h
  · intro s a hs
    refine Ev.succ ?_
    simp only [laws_markStringS.l0, hs, Int.lt_irrefl, if_false]
    exact Ev.now _
theorem heldStringS_ev (l : List ByteArray) (a : Int) (h0 : 0 ≤ a) (ha : a + l.length ≤ 1000000000) : Ev (fun k => laws_heldStringS.f k (markStrs a l) a) (a + l.length) := by
  unfold laws_heldStringS.f markStrs
  have e : a + (l.length : Int) = markEnd (fun _ => 1) a l := by rw [markEnd_const]; omega
  rw [e]
  refine Ev.held smark (fun _ => 1) ByteArray.empty 1000000000 l.length (fun k s a j => laws_heldStringS.l0 k s a j) ?_ ?_ l a rfl h0 (by rw [markEnd_const]; omega)
  · intro s j a y r hj hs hg h0 h1 h
    refine Ev.succ ?_
    have h2 : ((j : Int) < (l.length : Int)) = True := eq_true (by omega)
    have h1 : a + 1 ≤ 1000000000 := h1
    simp only [laws_heldStringS.l0, hs, h2, if_true, nat_nonneg, rdS, hg, wrap_succ (show j < 4611686018427387904 by omega), wrap_id (x := a + 1) (by omega) (by omega)]
    refine Ev.bind (markText_ev a (by omega)) ?_
    simp only [smark, if_true]
    exact h
  · intro s a hs
    refine Ev.succ ?_
    simp only [laws_heldStringS.l0, hs, Int.lt_irrefl, if_false]
    exact Ev.now _
end Go.Proofs.Ytnkichilpildeaa.Pure
namespace Go.Proofs.Ytnkichilpildeaa.Pure
open Go.RowKit Go.Proofs.Ytnkichilpildeaa.Q Go.Proofs.YtnkichilpildeaaW.PrintWords Go.Proofs.YtnkichilpildeaaW.PrintLast

/-- The due cards' texts of d cards from card j on. -/
def dueD (l : List S73) (a : Int) : Nat → Nat → List ByteArray → List ByteArray
  | 0, _, c => c
  | d + 1, j, c => dueD l a d (j + 1) (if (cat l j).f2 ≤ a then c ++ [(cat l j).f0] else c)
theorem dueD_length (l : List S73) (a : Int) : ∀ d j c, (dueD l a d j c).length ≤ c.length + d := by
  intro d
  induction d with
  | zero => intro j c; exact Nat.le_refl _
  | succ d ih =>
    intro j c
    rw [dueD]
    by_cases h : (cat l j).f2 ≤ a
    · have := ih (j + 1) (c ++ [(cat l j).f0])
      rw [if_pos h]
      rw [List.length_append, List.length_singleton] at this
      omega
    · have := ih (j + 1) c
      rw [if_neg h]
      omega
def dueR (l : List S73) (a : Int) : List ByteArray × Bool := if cgoodB l && inB a 0 99999 then (dueD l a l.length 0 [], true) else ([], false)
theorem specDue_ev {l : List S73} (a : Int) (hl : l.length ≤ 1048576) : ∀ d j c, j + d = l.length → c.length ≤ j → Ev (fun k => spec_DueCards.l0 k a c l (l.length : Int) (j : Int)) (dueD l a d j c, true) := by
  intro d
  induction d with
  | zero =>
    intro j c hj _
    refine Ev.succ ?_
    have h1 : ((j : Int) < (l.length : Int)) = False := eq_false (by omega)
    simp only [spec_DueCards.l0, h1, if_false, dueD]
    exact Ev.now _
  | succ d ih =>
    intro j c hj hc
    refine Ev.succ ?_
    have h1 : ((j : Int) < (l.length : Int)) = True := eq_true (by omega)
    have h3 : (c.length < 8796093022208) = True := eq_true (by omega)
    simp only [spec_DueCards.l0, h1, h3, if_true, nat_nonneg, rdc, wrap_succ (show j < 4611686018427387904 by omega), dueD]
    by_cases h : (cat l j).f2 ≤ a
    · simp only [eq_true h, if_true]
      exact ih (j + 1) _ (by omega) (by simp; omega)
    · simp only [eq_false h, if_false]
      exact ih (j + 1) _ (by omega) (by omega)
theorem implDue_ev {l : List S73} (a : Int) (hl : l.length ≤ 1048576) : ∀ d j c, j + d = l.length → c.length ≤ j → Ev (fun k => impl_DueCards.l0 k a c l (l.length : Int) (j : Int)) (dueD l a d j c, true) := by
  intro d
  induction d with
  | zero =>
    intro j c hj _
    refine Ev.succ ?_
    have h1 : ((j : Int) < (l.length : Int)) = False := eq_false (by omega)
    simp only [impl_DueCards.l0, h1, if_false, dueD]
    exact Ev.now _
  | succ d ih =>
    intro j c hj hc
    refine Ev.succ ?_
    have h1 : ((j : Int) < (l.length : Int)) = True := eq_true (by omega)
    have h3 : (c.length < 8796093022208) = True := eq_true (by omega)
    simp only [impl_DueCards.l0, h1, h3, if_true, nat_nonneg, rdc, wrap_succ (show j < 4611686018427387904 by omega), dueD]
    by_cases h : (cat l j).f2 ≤ a
    · simp only [eq_true h, if_true]
      exact ih (j + 1) _ (by omega) (by simp; omega)
    · simp only [eq_false h, if_false]
      exact ih (j + 1) _ (by omega) (by omega)
theorem specDueCards_ev (l : List S73) (a : Int) (hl : l.length ≤ 1048576) (hz : CSz l) : Ev (fun k => spec_DueCards.f k l a) (dueR l a) := by
  unfold spec_DueCards.f dueR
  refine Ev.bind (rpGood_ev l (by omega) hz) ?_
  rcases Bool.eq_false_or_eq_true (cgoodB l) with hg | hg
  · simp only [hg, if_true, Bool.true_and, rpDay_eq, Option.bind_some]
    refine Ev.succ ?_
    rcases Bool.eq_false_or_eq_true (inB a 0 99999) with h2 | h2
    · simp only [spec_DueCards.j0, h2]
      exact specDue_ev a hl _ 0 _ (by omega) (by simp)
    · simp only [spec_DueCards.j0, h2]
      exact Ev.now _
  · simp only [hg]
    refine Ev.succ ?_
    simp only [spec_DueCards.j0]
    exact Ev.now _
theorem implDueCards_ev (l : List S73) (a : Int) (hl : l.length ≤ 1048576) (hz : CSz l) : Ev (fun k => impl_DueCards.f k l a) (dueR l a) := by
  unfold impl_DueCards.f dueR
  refine Ev.bind (areCards_ev l (by omega) hz) ?_
  rcases Bool.eq_false_or_eq_true (cgoodB l) with hg | hg
  · simp only [hg, if_true, Bool.true_and, isFrame_eq, Option.bind_some]
    refine Ev.succ ?_
    rcases Bool.eq_false_or_eq_true (inB a 0 99999) with h2 | h2
    · simp only [impl_DueCards.j0, h2]
      exact implDue_ev a hl _ 0 _ (by omega) (by simp)
    · simp only [impl_DueCards.j0, h2]
      exact Ev.now _
  · simp only [hg]
    refine Ev.succ ?_
    simp only [impl_DueCards.j0]
    exact Ev.now _
theorem dueR_length (l : List S73) (a : Int) : (dueR l a).1.length ≤ l.length := by
  unfold dueR
  split
  · have := dueD_length l a l.length 0 []
    simpa using this
  · simp

theorem FnExactDueCards : laws_FnExactDueCards.Pure := by
  intro l a h hz _
  obtain ⟨r, hb, hr⟩ := szCardS_ev l h hz
  refine Ev.rounds ?_
  unfold laws_FnExactDueCards.f
  refine Ev.bind hr ?_
  by_cases h0 : r < 0
  · simp only [eq_true h0, if_true]
    exact Ev.now _
  simp only [eq_false h0, if_false]
  have hb' := hb (by omega)
  have hk : (l.map cconv).length ≤ 1048576 := by rw [List.length_map]; exact hb'
  have hm : (l.map cconv).length < 4611686018427387904 := by omega
  have hs := csz_map l hz
  have hle := dueR_length (l.map cconv) a
  have hi : (dueR (l.map cconv) a).1.length < 4611686018427387904 := by omega
  refine Ev.bind (toCardS_ev l h) ?_
  refine Ev.bind (specDueCards_ev _ a hk hs) ?_
  refine Ev.bind (toCardS_ev l h) ?_
  refine Ev.bind (implDueCards_ev _ a hk hs) ?_
  refine Ev.bind (eqStringS_ev _ hi) ?_
  simp only [bne_self_eq_false, if_true]
  refine Ev.succ ?_
  simp only [laws_FnExactDueCards.j0]
  refine Ev.bind (toCardS_ev l h) ?_
  refine Ev.bind (eqCardS_ev _ hm) ?_
  simp only [if_true]
  refine Ev.bind (markCardS_ev _ 1 (by decide) (by omega)) ?_
  simp only [show (1 + 3 * ((l.map cconv).length : Int) < 0) = False from eq_false (by omega), if_false]
  refine Ev.bind (eqStringS_ev _ hi) ?_
  simp only [bne_self_eq_false, if_true]
  refine Ev.succ ?_
  simp only [laws_FnExactDueCards.j1]
  refine Ev.bind (markStringS_ev _ 1 (by decide) (by omega)) ?_
  refine Ev.bind (heldStringS_ev _ 1 (by decide) (by omega)) ?_
  simp only [show (1 + ((dueR (l.map cconv) a).1.length : Int) < 0) = False from eq_false (by omega), if_false, if_true]
  refine Ev.bind (toCardS_ev l h) ?_
  refine Ev.bind (implDueCards_ev _ a hk hs) ?_
  refine Ev.bind (eqStringS_ev _ hi) ?_
  simp only [bne_self_eq_false, if_true]
  refine Ev.succ ?_
  simp only [laws_FnExactDueCards.j2]
  refine Ev.bind (heldStringS_ev _ 1 (by decide) (by omega)) ?_
  simp only [show (1 + ((dueR (l.map cconv) a).1.length : Int) < 0) = False from eq_false (by omega), if_false, if_true]
  exact Ev.now _
end Go.Proofs.Ytnkichilpildeaa.Pure
