/- For all lists of cards, texts and days, the program's AddCard returns what the reference's AddCard returns, leaves the list alone, and hands back memory of its own. No condition. -/
import Derived.Test.YtnkichilpildeaaQBounds
import Derived.Test.YtnkichilpildeaaQImplAddCard
import Derived.Test.YtnkichilpildeaaQImplAreCards
import Derived.Test.YtnkichilpildeaaQImplHasOnly
import Derived.Test.YtnkichilpildeaaQImplIsCard
import Derived.Test.YtnkichilpildeaaQImplIsFrame
import Derived.Test.YtnkichilpildeaaQImplIsGloss
import Derived.Test.YtnkichilpildeaaQImplIsWordOf
import Derived.Test.YtnkichilpildeaaQImplWithin
import Derived.Test.YtnkichilpildeaaQLawsEqCard
import Derived.Test.YtnkichilpildeaaQLawsEqCardS
import Derived.Test.YtnkichilpildeaaQLawsFnExactAddCard
import Derived.Test.YtnkichilpildeaaQLawsHeldCardS
import Derived.Test.YtnkichilpildeaaQLawsMarkCardS
import Derived.Test.YtnkichilpildeaaQLawsMarkText
import Derived.Test.YtnkichilpildeaaQLawsSzCard
import Derived.Test.YtnkichilpildeaaQLawsSzCardS
import Derived.Test.YtnkichilpildeaaQLawsToCard
import Derived.Test.YtnkichilpildeaaQLawsToCardS
import Derived.Test.YtnkichilpildeaaQSlicesCloneImplCard
import Derived.Test.YtnkichilpildeaaQSlicesSortFuncImplCard
import Derived.Test.YtnkichilpildeaaQSpecAddCard
import Derived.Test.YtnkichilpildeaaQSpecFsWord
import Derived.Test.YtnkichilpildeaaQSpecL1In
import Derived.Test.YtnkichilpildeaaQSpecRpDay
import Derived.Test.YtnkichilpildeaaQSpecRpGood
import Derived.Test.YtnkichilpildeaaQSpecRpOne
import Derived.Test.YtnkichilpildeaaQStringsIndexByte
import Derived.Test.YtnkichilpildeaaQ0
import Derived.Test.YtnkichilpildeaaWWords
import Derived.Lib.Bytealg
import Derived.Test.YtnkichilpildeaaGStr
set_option linter.unusedVariables false
set_option linter.unusedSimpArgs false
namespace Go.Proofs.Ytnkichilpildeaa.Pure
open Go.RowKit Go.Proofs.Ytnkichilpildeaa.Q Go.Proofs.YtnkichilpildeaaW.PrintLast Go.Proofs.YtnkichilpildeaaW.PrintWords
theorem Ev.succ {α : Type} {g : Nat → Option α} {r : α} (h : Ev (fun k => g (k + 1)) r) : Ev g r := Ev.step (fun _ => rfl) h
theorem Ev.k {α : Type} {g : Nat → Option α} {o : Option α} {r : α} (hg : ∀ k, g k = o) (h : o = some r) : Ev g r := ⟨0, fun k _ => (hg k).trans h⟩
theorem Ev.eq {α : Type} {g : Nat → Option α} {r r' : α} (h : Ev g r) (e : r = r') : Ev g r' := e ▸ h
/-- From round i up to round n. -/
theorem Ev.upto {β : Type} {L : Nat → Nat → Option β} {r : β} {n : Nat} (hend : Ev (fun k => L k n) r)
    (hstep : ∀ j, j < n → Ev (fun k => L k (j + 1)) r → Ev (fun k => L k j) r) : ∀ i, i ≤ n → Ev (fun k => L k i) r := by
  intro i hi
  obtain ⟨d, hd⟩ : ∃ d, n = i + d := ⟨n - i, by omega⟩
  induction d generalizing i with
  | zero => simp at hd; subst hd; exact hend
  | succ d ih => exact hstep i (by omega) (ih (i + 1) (by omega) (by omega))
/-- A loop that ends early where P fails. -/
theorem Ev.all {β : Type} {L : Nat → Nat → Option β} {P : Nat → Bool} {n : Nat} {a b : β} (hend : Ev (fun k => L k n) a)
    (hyes : ∀ j r, j < n → P j = true → Ev (fun k => L k (j + 1)) r → Ev (fun k => L k j) r) (hno : ∀ j, j < n → P j = false → Ev (fun k => L k j) b) :
    ∀ i, i ≤ n → Ev (fun k => L k i) (if (List.range' i (n - i)).all P then a else b) := by
  intro i hi
  obtain ⟨d, hd⟩ : ∃ d, n = i + d := ⟨n - i, by omega⟩
  induction d generalizing i with
  | zero => simp at hd; subst hd; simpa using hend
  | succ d ih =>
    have h1 : n - i = (n - (i + 1)) + 1 := by omega
    rw [h1, List.range'_succ]
    simp only [List.all_cons]
    rcases Bool.eq_false_or_eq_true (P i) with hP | hP
    · simp only [hP, Bool.true_and]
      exact hyes i _ (by omega) hP (ih (i + 1) (by omega) (by omega))
    · simpa [hP] using hno i (by omega) hP
theorem Ev.all0 {β : Type} {L : Nat → Nat → Option β} {P : Nat → Bool} {n : Nat} {a b : β} (hend : Ev (fun k => L k n) a)
    (hyes : ∀ j r, j < n → P j = true → Ev (fun k => L k (j + 1)) r → Ev (fun k => L k j) r) (hno : ∀ j, j < n → P j = false → Ev (fun k => L k j) b) :
    Ev (fun k => L k 0) (if (List.range n).all P then a else b) := by
  have := Ev.all hend hyes hno 0 (Nat.zero_le _)
  rwa [Nat.sub_zero, ← List.range_eq_range'] at this

theorem wrap_id {x : Int} (h0 : -9223372036854775808 ≤ x) (h1 : x ≤ 9223372036854775807) : wrap64 x = x := by
  unfold wrap64
  omega
theorem wrap_succ {n : Nat} (h : n < 4611686018427387904) : wrap64 ((n : Int) + 1) = ((n + 1 : Nat) : Int) := by
  rw [wrap_id (by omega) (by omega)]
  omega
theorem wrap_pred {n : Nat} (h0 : 0 < n) (h : n < 4611686018427387904) : wrap64 ((n : Int) - 1) = ((n - 1 : Nat) : Int) := by
  rw [wrap_id (by omega) (by omega)]
  omega
theorem nat_nonneg (n : Nat) : (0 ≤ (n : Int)) = True := eq_true (Int.natCast_nonneg n)
theorem getD_map {α β : Type} (f : α → β) (l : List α) (i : Nat) (d : α) (e : β) (h : i < l.length) : (l.map f).getD i e = f (l.getD i d) := by
  simp [List.getD_eq_getElem?_getD, List.getElem?_eq_getElem h]

/-- A copy, element by element, into a row that was made. -/
theorem Ev.copy {α β : Type} (f : α → β) (l : List α) (za : α) (zb : β) (L : Nat → List β → Int → Option (List β))
    (hstep : ∀ (j : Nat) (s r : List β), j < l.length → s.length = l.length → Ev (fun k => L k (s.set j (f (l.getD j za))) ((j + 1 : Nat) : Int)) r → Ev (fun k => L k s (j : Int)) r)
    (hend : ∀ s : List β, s.length = l.length → Ev (fun k => L k s (l.length : Int)) s) : Ev (fun k => L k (List.replicate l.length zb) 0) (l.map f) := by
  have key := Ev.upto (L := fun k j => L k ((l.map f).take j ++ List.replicate (l.length - j) zb) (j : Int)) (r := l.map f) (n := l.length)
    (by
      have h := hend ((l.map f).take l.length ++ List.replicate (l.length - l.length) zb) (by simp)
      refine Ev.eq h ?_
      rw [Nat.sub_self, List.replicate_zero, List.append_nil, List.take_of_length_le (by simp)])
    (by
      intro j hj h
      have hlen : ((l.map f).take j ++ List.replicate (l.length - j) zb).length = l.length := by simp; omega
      refine hstep j _ _ hj hlen ?_
      have e : ((l.map f).take j ++ List.replicate (l.length - j) zb).set j (f (l.getD j za)) = (l.map f).take (j + 1) ++ List.replicate (l.length - (j + 1)) zb := by
        have e1 : l.length - j = (l.length - (j + 1)) + 1 := by omega
        rw [e1, List.replicate_succ, List.set_append_right _ _ (by simp; omega)]
        have e2 : j - ((l.map f).take j).length = 0 := by simp; omega
        rw [e2, List.set_cons_zero, List.take_succ_eq_append_getElem (by simpa using hj)]
        simp [List.getD_eq_getElem?_getD, List.getElem?_eq_getElem hj]
      rw [e]
      exact h)
    0 (Nat.zero_le _)
  simpa using key
/-- What is left of a size, or that it was passed. -/
theorem Ev.sz {L : Nat → Nat → Int → Option Int} {n : Nat}
    (hstep : ∀ (j : Nat) (a : Int), j < n → 0 ≤ a → a ≤ 1048576 → (∃ a', 0 ≤ a' ∧ a' ≤ a ∧ ∀ r, Ev (fun k => L k (j + 1) a') r → Ev (fun k => L k j a) r) ∨ Ev (fun k => L k j a) (-1))
    (hend : ∀ a : Int, 0 ≤ a → a ≤ 1048576 → Ev (fun k => L k n a) a) :
    ∀ (j : Nat), j ≤ n → ∀ a : Int, 0 ≤ a → a ≤ 1048576 → ∃ r, r ≤ a ∧ Ev (fun k => L k j a) r := by
  intro j hj
  obtain ⟨d, hd⟩ : ∃ d, n = j + d := ⟨n - j, by omega⟩
  induction d generalizing j with
  | zero => simp at hd; subst hd; exact fun a h0 h1 => ⟨a, Int.le_refl _, hend a h0 h1⟩
  | succ d ih =>
    intro a h0 h1
    rcases hstep j a (by omega) h0 h1 with ⟨a', h2, h3, h4⟩ | h5
    · obtain ⟨r, h6, h7⟩ := ih (j + 1) (by omega) (by omega) a' h2 (by omega)
      exact ⟨r, by omega, h4 r h7⟩
    · exact ⟨-1, by omega, h5⟩
/-- The marks of a row: m a x is x marked from a on, c x how many marks that takes. -/
def markAll {β : Type} (m : Int → β → β) (c : β → Nat) : Int → List β → List β
  | _, [] => []
  | a, x :: r => m a x :: markAll m c (a + c x) r
def markEnd {β : Type} (c : β → Nat) : Int → List β → Int
  | a, [] => a
  | a, x :: r => markEnd c (a + c x) r
theorem markEnd_ge {β : Type} (c : β → Nat) : ∀ (l : List β) (a : Int), a ≤ markEnd c a l
  | [], a => Int.le_refl _
  | x :: r, a => by have := markEnd_ge c r (a + c x); simp only [markEnd]; omega
theorem markAll_length {β : Type} (m : Int → β → β) (c : β → Nat) : ∀ (l : List β) (a : Int), (markAll m c a l).length = l.length
  | [], _ => rfl
  | x :: r, a => by simp [markAll, markAll_length m c r]
theorem markEnd_const {β : Type} (n : Nat) : ∀ (l : List β) (a : Int), markEnd (fun _ => n) a l = a + n * l.length
  | [], a => by simp [markEnd]
  | x :: r, a => by
    simp only [markEnd, markEnd_const n r, List.length_cons]
    have : (n : Int) * ((r.length + 1 : Nat) : Int) = n * r.length + n := by rw [Int.natCast_add, Int.mul_add]; simp
    omega
theorem Ev.mark {β : Type} (m : Int → β → β) (c : β → Nat) (z : β) (B : Int) (N : Nat) (L : Nat → List β → Int → Int → Option (Int × List β))
    (hstep : ∀ (s : List β) (j : Nat) (a : Int) (r : Int × List β), j < N → s.length = N → 0 ≤ a → a + c (s.getD j z) ≤ B → Ev (fun k => L k (s.set j (m a (s.getD j z))) (a + c (s.getD j z)) ((j + 1 : Nat) : Int)) r → Ev (fun k => L k s a (j : Int)) r)
    (hend : ∀ (s : List β) (a : Int), s.length = N → Ev (fun k => L k s a (N : Int)) (a, s)) :
    ∀ (l : List β) (a : Int), l.length = N → 0 ≤ a → markEnd c a l ≤ B → Ev (fun k => L k l a 0) (markEnd c a l, markAll m c a l) := by
  have key : ∀ (l d : List β) (a : Int), d.length + l.length = N → 0 ≤ a → markEnd c a l ≤ B → Ev (fun k => L k (d ++ l) a (d.length : Int)) (markEnd c a l, d ++ markAll m c a l) := by
    intro l
    induction l with
    | nil =>
      intro d a hN _ _
      simp only [List.append_nil, markEnd, markAll]
      rw [List.length_nil, Nat.add_zero] at hN
      rw [hN]
      exact hend d a hN
    | cons x r ih =>
      intro d a hN h0 h1
      rw [List.length_cons] at hN
      have hx : (d ++ x :: r).getD d.length z = x := by simp [List.getD_eq_getElem?_getD]
      have hB := markEnd_ge c r (a + c x)
      simp only [markEnd] at h1
      refine hstep _ _ _ _ (by omega) (by simp; omega) h0 (by rw [hx]; omega) ?_
      rw [hx]
      have e : (d ++ x :: r).set d.length (m a x) = (d ++ [m a x]) ++ r := by
        rw [List.set_append_right _ _ (Nat.le_refl _), Nat.sub_self, List.set_cons_zero, List.append_assoc]
        rfl
      have h2 := ih (d ++ [m a x]) (a + c x) (by simp; omega) (by omega) h1
      rw [e]
      simpa [markAll, markEnd] using h2
  intro l a hN h0 h1
  simpa using key l [] a (by simpa using hN) h0 h1
theorem Ev.held {β : Type} (m : Int → β → β) (c : β → Nat) (z : β) (B : Int) (N : Nat) (L : Nat → List β → Int → Int → Option Int)
    (hstep : ∀ (s : List β) (j : Nat) (a : Int) (y : β) (r : Int), j < N → s.length = N → s.getD j z = m a y → 0 ≤ a → a + c y ≤ B → Ev (fun k => L k s (a + c y) ((j + 1 : Nat) : Int)) r → Ev (fun k => L k s a (j : Int)) r)
    (hend : ∀ (s : List β) (a : Int), s.length = N → Ev (fun k => L k s a (N : Int)) a) :
    ∀ (l : List β) (a : Int), l.length = N → 0 ≤ a → markEnd c a l ≤ B → Ev (fun k => L k (markAll m c a l) a 0) (markEnd c a l) := by
  have key : ∀ (l d : List β) (a : Int), d.length + l.length = N → 0 ≤ a → markEnd c a l ≤ B → Ev (fun k => L k (d ++ markAll m c a l) a (d.length : Int)) (markEnd c a l) := by
    intro l
    induction l with
    | nil =>
      intro d a hN _ _
      simp only [List.append_nil, markEnd, markAll]
      rw [List.length_nil, Nat.add_zero] at hN
      rw [hN]
      exact hend d a hN
    | cons x r ih =>
      intro d a hN h0 h1
      rw [List.length_cons] at hN
      have hB := markEnd_ge c r (a + c x)
      simp only [markEnd] at h1
      refine hstep _ _ _ x _ (by omega) (by simp [markAll, markAll_length]; omega) (by simp [markAll, List.getD_eq_getElem?_getD]) h0 (by omega) ?_
      have h2 := ih (d ++ [m a x]) (a + c x) (by simp; omega) (by omega) h1
      simpa [markAll, markEnd] using h2
  intro l a hN h0 h1
  simpa using key l [] a (by simpa using hN) h0 h1
def inB (a b c : Int) : Bool := decide (b ≤ a ∧ a ≤ c)
theorem l1In_eq (a b c : Int) : spec_l1In.f a b c = some (inB a b c) := by
  unfold spec_l1In.f inB
  split <;> simp <;> omega
theorem within_eq (a b c : Int) : impl_within.f a b c = some (inB a b c) := by
  unfold impl_within.f inB
  split <;> simp <;> omega
def capAt (s : ByteArray) (j : Nat) : Bool := decide (65 ≤ bt s j ∧ bt s j ≤ 90)
def glossB (s : ByteArray) : Bool := inB s.size 1 8 && (List.range s.size).all (capAt s)
def caps : ByteArray := ⟨#[65, 66, 67, 68, 69, 70, 71, 72, 73, 74, 75, 76, 77, 78, 79, 80, 81, 82, 83, 84, 85, 86, 87, 88, 89, 90]⟩
theorem caps_all : ((List.range 256).all fun n => decide (Lib.indexByte caps.data.toList n.toUInt8 < 0) == !(decide (65 ≤ n ∧ n ≤ 90))) = true := by decide +kernel
theorem caps_index (b : Int) (h0 : 0 ≤ b) (h1 : b ≤ 255) : (Lib.indexByte caps.data.toList b.toNat.toUInt8 < 0) ↔ ¬ (65 ≤ b ∧ b ≤ 90) := by
  have h := List.all_eq_true.1 caps_all b.toNat (List.mem_range.2 (by omega))
  simp only [beq_iff_eq] at h
  by_cases hc : 65 ≤ b ∧ b ≤ 90
  · have h2 : decide (65 ≤ b.toNat ∧ b.toNat ≤ 90) = true := decide_eq_true (by omega)
    rw [h2] at h
    exact ⟨fun h3 => absurd h3 (of_decide_eq_false h), fun h3 => absurd hc h3⟩
  · have h2 : decide (65 ≤ b.toNat ∧ b.toNat ≤ 90) = false := decide_eq_false (by omega)
    rw [h2] at h
    exact ⟨fun _ => hc, fun _ => of_decide_eq_true h⟩
theorem hasOnly_ev (s : ByteArray) (hs : s.size < 4611686018427387904) : Ev (fun k => impl_hasOnly.f k s caps) ((List.range s.size).all (capAt s)) := by
  unfold impl_hasOnly.f
  refine Ev.eq (Ev.all0 (L := fun k j => impl_hasOnly.l0 k s caps (s.size : Int) (j : Int)) (P := capAt s) (n := s.size) (a := true) (b := false) ?_ ?_ ?_) (by split <;> simp_all)
  · refine Ev.succ ?_
    simp only [impl_hasOnly.l0, Int.lt_irrefl, if_false]
    exact Ev.now _
  · intro j r hj hP h
    refine Ev.succ ?_
    have h1 : ((j : Int) < (s.size : Int)) = True := eq_true (by omega)
    have hb := bt_range s (j : Int)
    have h2 : (Lib.indexByte caps.data.toList (bt s (j : Int)).toNat.toUInt8 < 0) = False := eq_false (fun hc => (caps_index _ hb.1 hb.2).1 hc (of_decide_eq_true hP))
    simp only [impl_hasOnly.l0, strings_IndexByte.f, Option.bind_some, h1, if_true, nat_nonneg, h2, if_false, wrap_succ (show j < 4611686018427387904 by omega)]
    exact h
  · intro j hj hP
    refine Ev.succ ?_
    have h1 : ((j : Int) < (s.size : Int)) = True := eq_true (by omega)
    have hb := bt_range s (j : Int)
    have h2 : (Lib.indexByte caps.data.toList (bt s (j : Int)).toNat.toUInt8 < 0) = True := eq_true ((caps_index _ hb.1 hb.2).2 (of_decide_eq_false hP))
    simp only [impl_hasOnly.l0, strings_IndexByte.f, Option.bind_some, h1, if_true, nat_nonneg, h2]
    exact Ev.now _
theorem isGloss_ev (s : ByteArray) (hs : s.size < 4611686018427387904) : Ev (fun k => impl_IsGloss.f k s) (glossB s) := by
  unfold impl_IsGloss.f impl_isWordOf.f glossB
  refine Ev.bind (a := inB s.size 1 8 && (List.range s.size).all (capAt s)) ?_ (Ev.now _)
  simp only [within_eq, Option.bind_some]
  rcases Bool.eq_false_or_eq_true (inB s.size 1 8) with h | h
  · simp only [h, if_true, Bool.true_and]
    exact Ev.bind (hasOnly_ev s hs) (Ev.now _)
  · simp only [h]
    exact Ev.now _
theorem fsWord_ev (s : ByteArray) (hs : s.size < 4611686018427387904) : Ev (fun k => spec_fsWord.f k s) (glossB s) := by
  unfold spec_fsWord.f
  refine Ev.eq (Ev.all0 (L := fun k j => spec_fsWord.l0 k s (j : Int)) (P := capAt s) (n := s.size) (a := inB s.size 1 8) (b := false) ?_ ?_ ?_) (by unfold glossB; split <;> simp_all)
  · refine Ev.succ ?_
    simp only [spec_fsWord.l0, Int.lt_irrefl, if_false, l1In_eq, Option.bind_some]
    exact Ev.now _
  · intro j r hj hP h
    refine Ev.succ ?_
    have h1 : ((j : Int) < (s.size : Int)) = True := eq_true (by omega)
    have hP' := of_decide_eq_true hP
    simp only [spec_fsWord.l0, h1, if_true, nat_nonneg, show (bt s (j : Int) < 65) = False from eq_false (by omega), show (bt s (j : Int) > 90) = False from eq_false (by omega), if_false, wrap_succ (show j < 4611686018427387904 by omega)]
    exact h
  · intro j hj hP
    refine Ev.succ ?_
    have h1 : ((j : Int) < (s.size : Int)) = True := eq_true (by omega)
    have hP' := of_decide_eq_false hP
    simp only [spec_fsWord.l0, h1, if_true, nat_nonneg]
    by_cases h2 : bt s (j : Int) < 65
    · simp only [eq_true h2, if_true]
      exact Ev.now _
    · simp only [eq_false h2, if_false, show (bt s (j : Int) > 90) = True from eq_true (by omega), if_true]
      exact Ev.now _
def cardB (g : ByteArray) (b d : Int) : Bool := glossB g && (inB b 0 5 && inB d 0 99999)
theorem isFrame_eq (d : Int) : impl_isFrame.f d = some (inB d 0 99999) := by
  unfold impl_isFrame.f
  simp only [within_eq, Option.bind_some]
theorem rpDay_eq (d : Int) : spec_rpDay.f d = some (inB d 0 99999) := by
  unfold spec_rpDay.f
  simp only [l1In_eq, Option.bind_some]
theorem isCard_ev (g : ByteArray) (b d : Int) (hs : g.size < 4611686018427387904) : Ev (fun k => impl_isCard.f k g b d) (cardB g b d) := by
  unfold impl_isCard.f cardB
  refine Ev.bind (isGloss_ev g hs) ?_
  simp only [within_eq, isFrame_eq, Option.bind_some]
  rcases Bool.eq_false_or_eq_true (glossB g) with h | h <;> rcases Bool.eq_false_or_eq_true (inB b 0 5) with h2 | h2 <;> simp only [h, h2] <;> exact Ev.now _
theorem rpOne_ev (g : ByteArray) (b d : Int) (hs : g.size < 4611686018427387904) : Ev (fun k => spec_rpOne.f k g b d) (cardB g b d) := by
  unfold spec_rpOne.f cardB
  refine Ev.bind (fsWord_ev g hs) ?_
  simp only [l1In_eq, rpDay_eq, Option.bind_some]
  rcases Bool.eq_false_or_eq_true (glossB g) with h | h <;> rcases Bool.eq_false_or_eq_true (inB b 0 5) with h2 | h2 <;> simp only [h, h2] <;> exact Ev.now _
def cat (l : List S73) (j : Nat) : S73 := l.getD j z73
theorem rdc (l : List S73) (j : Nat) : rd_T73 l (j : Int) = cat l j := by simp [rd_T73, cat]
theorem rdcL (l : List S71) (j : Nat) : rd_T71 l (j : Int) = l.getD j z71 := by simp [rd_T71]
def cOk (x : S73) : Bool := cardB x.f0 x.f1 x.f2
def cAt (l : List S73) (i : Nat) : Bool := cOk (cat l i) && (decide (i = 0) || Op.bytesLess (cat l (i - 1)).f0.toList (cat l i).f0.toList)
def cgoodB (l : List S73) : Bool := if (List.range l.length).all (cAt l) then decide (l.length ≤ 20) else false
/-- Every text of the cards is short enough. -/
def CSz (l : List S73) : Prop := ∀ i, i < l.length → (cat l i).f0.size ≤ 140737488351232

theorem rpGood_ev (l : List S73) (hl : l.length < 4611686018427387904) (hz : CSz l) : Ev (fun k => spec_rpGood.f k l) (cgoodB l) := by
  unfold spec_rpGood.f cgoodB
  refine Ev.all0 (L := fun k j => spec_rpGood.l0 k l l (l.length : Int) (j : Int)) (P := cAt l) (n := l.length) ?_ ?_ ?_
  · refine Ev.succ ?_
    simp only [spec_rpGood.l0, Int.lt_irrefl, if_false]
    refine Ev.eq (Ev.now _) ?_
    rw [decide_eq_decide]
    omega
  · intro j r hj hP h
    refine Ev.succ ?_
    have h1 : ((j : Int) < (l.length : Int)) = True := eq_true (by omega)
    have hsz := hz j hj
    simp only [cAt, Bool.and_eq_true, Bool.or_eq_true, decide_eq_true_eq, cOk] at hP
    simp only [spec_rpGood.l0, h1, if_true, nat_nonneg, rdc, wrap_succ (show j < 4611686018427387904 by omega)]
    refine Ev.bind (Ev.eq (rpOne_ev (cat l j).f0 (cat l j).f1 (cat l j).f2 (by omega)) hP.1) ?_
    by_cases h0 : j = 0
    · subst h0
      exact h
    · have h2 : ((j : Int) > 0) = True := eq_true (by omega)
      have h3 : (((j - 1 : Nat) : Int) < (l.length : Int)) = True := eq_true (by omega)
      have h4 := hP.2.resolve_left h0
      simp only [h2, if_true, wrap_pred (show 0 < j by omega) (show j < 4611686018427387904 by omega), nat_nonneg, h3, rdc, h4]
      exact h
  · intro j hj hP
    refine Ev.succ ?_
    have h1 : ((j : Int) < (l.length : Int)) = True := eq_true (by omega)
    have hsz := hz j hj
    simp only [cAt, cOk] at hP
    simp only [spec_rpGood.l0, h1, if_true, nat_nonneg, rdc, wrap_succ (show j < 4611686018427387904 by omega)]
    refine Ev.bind (rpOne_ev (cat l j).f0 (cat l j).f1 (cat l j).f2 (by omega)) ?_
    rcases Bool.eq_false_or_eq_true (cardB (cat l j).f0 (cat l j).f1 (cat l j).f2) with hk | hk
    · simp only [hk, if_true]
      simp only [hk, Bool.true_and, Bool.or_eq_false_iff, decide_eq_false_iff_not] at hP
      have h2 : ((j : Int) > 0) = True := eq_true (by omega)
      have h3 : (((j - 1 : Nat) : Int) < (l.length : Int)) = True := eq_true (by omega)
      simp only [h2, if_true, wrap_pred (show 0 < j by omega) (show j < 4611686018427387904 by omega), nat_nonneg, h3, rdc, hP.2]
      exact Ev.now _
    · simp only [hk]
      exact Ev.now _
theorem areCards_ev (l : List S73) (hl : l.length < 4611686018427387904) (hz : CSz l) : Ev (fun k => impl_AreCards.f k l) (cgoodB l) := by
  unfold impl_AreCards.f cgoodB
  refine Ev.all0 (L := fun k j => impl_AreCards.l0 k l l (l.length : Int) (j : Int)) (P := cAt l) (n := l.length) ?_ ?_ ?_
  · refine Ev.succ ?_
    simp only [impl_AreCards.l0, Int.lt_irrefl, if_false]
    refine Ev.eq (Ev.now _) ?_
    rw [decide_eq_decide]
    omega
  · intro j r hj hP h
    refine Ev.succ ?_
    have h1 : ((j : Int) < (l.length : Int)) = True := eq_true (by omega)
    have hsz := hz j hj
    simp only [cAt, Bool.and_eq_true, Bool.or_eq_true, decide_eq_true_eq, cOk] at hP
    simp only [impl_AreCards.l0, h1, if_true, nat_nonneg, rdc, wrap_succ (show j < 4611686018427387904 by omega)]
    refine Ev.bind (Ev.eq (isCard_ev (cat l j).f0 (cat l j).f1 (cat l j).f2 (by omega)) hP.1) ?_
    by_cases h0 : j = 0
    · subst h0
      exact h
    · have h2 : ((j : Int) > 0) = True := eq_true (by omega)
      have h3 : (((j - 1 : Nat) : Int) < (l.length : Int)) = True := eq_true (by omega)
      have h4 := hP.2.resolve_left h0
      simp only [h2, if_true, wrap_pred (show 0 < j by omega) (show j < 4611686018427387904 by omega), nat_nonneg, h3, rdc, h4]
      exact h
  · intro j hj hP
    refine Ev.succ ?_
    have h1 : ((j : Int) < (l.length : Int)) = True := eq_true (by omega)
    have hsz := hz j hj
    simp only [cAt, cOk] at hP
    simp only [impl_AreCards.l0, h1, if_true, nat_nonneg, rdc, wrap_succ (show j < 4611686018427387904 by omega)]
    refine Ev.bind (isCard_ev (cat l j).f0 (cat l j).f1 (cat l j).f2 (by omega)) ?_
    rcases Bool.eq_false_or_eq_true (cardB (cat l j).f0 (cat l j).f1 (cat l j).f2) with hk | hk
    · simp only [hk, if_true]
      simp only [hk, Bool.true_and, Bool.or_eq_false_iff, decide_eq_false_iff_not] at hP
      have h2 : ((j : Int) > 0) = True := eq_true (by omega)
      have h3 : (((j - 1 : Nat) : Int) < (l.length : Int)) = True := eq_true (by omega)
      simp only [h2, if_true, wrap_pred (show 0 < j by omega) (show j < 4611686018427387904 by omega), nat_nonneg, h3, rdc, hP.2]
      exact Ev.now _
    · simp only [hk]
      exact Ev.now _

def cconv (x : S71) : S73 := ⟨x.f0, x.f1, x.f2⟩
theorem toCardS_ev (l : List S71) (hl : l.length * 32 ≤ 140737488351232) : Ev (fun k => laws_toCardS.f k l) (l.map cconv) := by
  unfold laws_toCardS.f
  simp only [nat_nonneg, if_true, Int.toNat_natCast, show (l.length ≤ 8796093022208) = True from eq_true (by omega)]
  refine Ev.copy cconv l z71 z73 (fun k s j => laws_toCardS.l0 k l s j) ?_ ?_
  · intro j s r hj hs h
    refine Ev.succ ?_
    have h1 : ((j : Int) < (l.length : Int)) = True := eq_true (by omega)
    simp only [laws_toCardS.l0, laws_toCard.f, Option.bind_some, h1, if_true, nat_nonneg, hs, Int.toNat_natCast, wrap_succ (show j < 4611686018427387904 by omega), rdcL]
    exact h
  · intro s hs
    refine Ev.succ ?_
    simp only [laws_toCardS.l0, Int.lt_irrefl, if_false]
    exact Ev.now _
theorem eqCardS_ev (l : List S73) (hl : l.length < 4611686018427387904) : Ev (fun k => laws_eqCardS.f k l l) true := by
  unfold laws_eqCardS.f
  simp only [if_true]
  exact Ev.upto (L := fun k j => laws_eqCardS.l0 k l l (j : Int)) (r := true) (n := l.length)
    (by
      refine Ev.succ ?_
      simp only [laws_eqCardS.l0, Int.lt_irrefl, if_false]
      exact Ev.now _)
    (by
      intro j hj h
      refine Ev.succ ?_
      have h1 : ((j : Int) < (l.length : Int)) = True := eq_true (by omega)
      simp only [laws_eqCardS.l0, laws_eqCard.f, Option.bind_some, h1, if_true, nat_nonneg, wrap_succ (show j < 4611686018427387904 by omega)]
      exact h)
    0 (Nat.zero_le _)
theorem szCardS_ev (l : List S71) (hl : l.length * 32 ≤ 140737488351232) (hz : ∀ y, y ∈ l → B71 y) : ∃ r, (0 ≤ r → l.length ≤ 1048576) ∧ Ev (fun k => laws_szCardS.f k l 1048576) r := by
  unfold laws_szCardS.f
  rw [wrap_id (x := 1048576 - (l.length : Int)) (by omega) (by omega)]
  by_cases h0 : (1048576 : Int) - l.length < 0
  · refine ⟨-1, fun h => absurd h (by decide), ?_⟩
    simp only [eq_true h0, if_true]
    exact Ev.now _
  · obtain ⟨r, _, hr⟩ := Ev.sz (L := fun k j a => laws_szCardS.l0 k l a (j : Int)) (n := l.length)
      (by
        intro j a hj ha0 ha1
        have h1 : ((j : Int) < (l.length : Int)) = True := eq_true (by omega)
        have hy := hz (l.getD j z71) (by rw [List.getD_eq_getElem?_getD, List.getElem?_eq_getElem hj]; exact List.getElem_mem hj)
        have hs : (l.getD j z71).f0.size ≤ 140737488351232 := hy.1
        by_cases hc : a - ((l.getD j z71).f0.size : Int) < 0
        · refine .inr (Ev.succ ?_)
          simp only [laws_szCardS.l0, laws_szCard.f, h1, if_true, nat_nonneg, rdcL, wrap_id (x := a - ((l.getD j z71).f0.size : Int)) (by omega) (by omega), eq_true hc, Option.bind_some]
          exact Ev.now _
        · refine .inl ⟨a - ((l.getD j z71).f0.size : Int), by omega, by omega, fun r h => Ev.succ ?_⟩
          simp only [laws_szCardS.l0, laws_szCard.f, h1, if_true, nat_nonneg, rdcL, wrap_id (x := a - ((l.getD j z71).f0.size : Int)) (by omega) (by omega), eq_false hc, if_false, Option.bind_some, wrap_succ (show j < 4611686018427387904 by omega)]
          exact h)
      (by
        intro a _ _
        refine Ev.succ ?_
        simp only [laws_szCardS.l0, Int.lt_irrefl, if_false]
        exact Ev.now _)
      0 (Nat.zero_le _) (1048576 - (l.length : Int)) (by omega) (by omega)
    refine ⟨r, fun _ => by omega, ?_⟩
    simp only [eq_false h0, if_false]
    exact hr
theorem csz_map (l : List S71) (hz : ∀ y, y ∈ l → B71 y) : CSz (l.map cconv) := by
  intro i hi
  rw [List.length_map] at hi
  have hy := hz (l.getD i z71) (by rw [List.getD_eq_getElem?_getD, List.getElem?_eq_getElem hi]; exact List.getElem_mem hi)
  unfold cat
  rw [getD_map cconv l i z71 _ hi]
  exact hy.1
def gk (x : S73) : List UInt8 := x.f0.data.toList
theorem cless (x y : S73) : Op.bytesLess x.f0.toList y.f0.toList = decide (gk x < gk y) := by rw [ByteArray.toList_eq, ByteArray.toList_eq, Go.Proofs.bytesLess_eq]; rfl
theorem cat_get (l : List S73) (j : Nat) (h : j < l.length) : cat l j = l[j] := by unfold cat; rw [List.getD_eq_getElem?_getD, List.getElem?_eq_getElem h]; rfl
theorem adj_pairwise {α : Type} {R : α → α → Prop} (tr : ∀ a b c, R a b → R b c → R a c) (l : List α) (h : ∀ i (hi : i + 1 < l.length), R (l[i]'(by omega)) l[i + 1]) : l.Pairwise R := by
  rw [List.pairwise_iff_getElem]
  intro i j hi hj hij
  obtain ⟨d, rfl⟩ : ∃ d, j = i + 1 + d := ⟨j - (i + 1), by omega⟩
  clear hij
  induction d with
  | zero => exact h i hj
  | succ d ih => exact tr _ _ _ (ih (by omega)) (h (i + 1 + d) (by omega))
theorem cgood_iff (l : List S73) : cgoodB l = true ↔ (∀ x, x ∈ l → cOk x = true) ∧ l.Pairwise (fun a b => gk a < gk b) ∧ l.length ≤ 20 := by
  have key : (List.range l.length).all (cAt l) = true ↔ ∀ i, i < l.length → cAt l i = true := by simp
  unfold cgoodB
  by_cases h : (List.range l.length).all (cAt l) = true
  · rw [if_pos h, decide_eq_true_eq]
    rw [key] at h
    refine ⟨fun h2 => ⟨fun x hx => ?_, adj_pairwise (R := fun a b => gk a < gk b) (fun a b c h1 h2 => List.lt_trans h1 h2) l fun i hi => ?_, h2⟩, fun h2 => h2.2.2⟩
    · obtain ⟨i, hi, rfl⟩ := List.mem_iff_getElem.1 hx
      have := h i hi
      unfold cAt at this
      rw [Bool.and_eq_true, cat_get l i hi] at this
      exact this.1
    · have := h (i + 1) hi
      unfold cAt at this
      rw [Bool.and_eq_true, Nat.add_sub_cancel, cat_get l _ hi, cat_get l i (by omega), cless] at this
      simpa using this.2
  · rw [if_neg h]
    refine ⟨fun h2 => by simp at h2, fun ⟨h1, h2, h3⟩ => absurd (key.2 fun i hi => ?_) h⟩
    unfold cAt
    rw [Bool.and_eq_true, cat_get l i hi]
    refine ⟨h1 _ (List.getElem_mem hi), ?_⟩
    by_cases h0 : i = 0
    · simp [h0]
    · rw [cat_get l (i - 1) (by omega), cless, decide_eq_true (List.pairwise_iff_getElem.1 h2 (i - 1) i (by omega) hi (by omega))]
      simp
theorem strict_inj {l : List S73} (h : l.Pairwise fun a b => gk a < gk b) {a b : S73} (ha : a ∈ l) (hb : b ∈ l) (e : gk a = gk b) : a = b := by
  obtain ⟨i, hi, rfl⟩ := List.mem_iff_getElem.1 ha
  obtain ⟨j, hj, rfl⟩ := List.mem_iff_getElem.1 hb
  rw [List.pairwise_iff_getElem] at h
  rcases Nat.lt_trichotomy i j with h1 | h1 | h1
  · have := h i j hi hj h1
    rw [e] at this
    exact absurd this (List.lt_irrefl _)
  · subst h1; rfl
  · have := h j i hj hi h1
    rw [e] at this
    exact absurd this (List.lt_irrefl _)
theorem sorted_same {s t : List S73} (hp : s.Perm t) (hs : s.Pairwise fun a b => ¬ gk b < gk a) (ht : t.Pairwise fun a b => gk a < gk b) : s = t := by
  refine List.Perm.eq_of_pairwise (le := fun a b => ¬ gk b < gk a) (fun a b ha hb h1 h2 => ?_) hs (ht.imp fun h => fun h2 => List.lt_irrefl _ (List.lt_trans h h2)) hp
  exact strict_inj ht (hp.mem_iff.1 ha) hb (List.le_antisymm (List.not_lt.1 h1) (List.not_lt.1 h2))
theorem weak_of_strict {l : List S73} (h : l.Pairwise fun a b => gk a < gk b) : l.Pairwise fun a b => ¬ gk b < gk a := h.imp fun h => fun h2 => List.lt_irrefl _ (List.lt_trans h h2)
theorem csz_iff (l : List S73) : CSz l ↔ ∀ x, x ∈ l → x.f0.size ≤ 140737488351232 := by
  refine ⟨fun h x hx => ?_, fun h i hi => by rw [cat_get l i hi]; exact h _ (List.getElem_mem hi)⟩
  obtain ⟨i, hi, rfl⟩ := List.mem_iff_getElem.1 hx
  have := h i hi
  rwa [cat_get l i hi] at this
theorem strOfNums_one (x : Int) : (strOfNums [x]).size = 1 := by simp [strOfNums, ByteArray.size]
theorem markText_l0 : ∀ (n : Nat) (a : Int) (s : ByteArray), 0 ≤ a → a.toNat ≤ n → a ≤ 1000000000 → s.size + n ≤ 2000000000 → ∃ r, Ev (fun k => laws_markText.l0 k a s) r := by
  intro n
  induction n with
  | zero =>
    intro a s h0 h1 h2 h3
    refine ⟨(⟨#[109]⟩ : ByteArray) ++ s, Ev.succ ?_⟩
    have h4 : (a > 0) = False := eq_false (by omega)
    have h5 : (1 + s.size ≤ 9223372036854775807) = True := eq_true (by omega)
    simp only [laws_markText.l0, h4, h5, if_true, if_false]
    exact Ev.now _
  | succ n ih =>
    intro a s h0 h1 h2 h3
    by_cases h : a > 0
    · have hd := Int.tdiv_eq_ediv_of_nonneg (b := 10) h0
      have h7 : Int.tdiv a 10 < a ∧ 0 ≤ Int.tdiv a 10 := by rw [hd]; omega
      have hx : (strOfNums [(wrap64 (48 + Int.tmod a 10)) % 256]).size = 1 := strOfNums_one _
      have h5 : ((strOfNums [(wrap64 (48 + Int.tmod a 10)) % 256]).size + s.size ≤ 9223372036854775807) = True := eq_true (by omega)
      obtain ⟨r, hr⟩ := ih (Int.tdiv a 10) (strOfNums [(wrap64 (48 + Int.tmod a 10)) % 256] ++ s) h7.2 (by omega) (by omega) (by rw [ByteArray.size_append]; omega)
      refine ⟨r, Ev.succ ?_⟩
      simp only [laws_markText.l0, eq_true h, h5, if_true, Option.bind_some, wrap_id (x := Int.tdiv a 10) (by omega) (by omega)]
      exact hr
    · refine ⟨(⟨#[109]⟩ : ByteArray) ++ s, Ev.succ ?_⟩
      have h5 : (1 + s.size ≤ 9223372036854775807) = True := eq_true (by omega)
      simp only [laws_markText.l0, eq_false h, h5, if_true, if_false]
      exact Ev.now _
theorem markText_some (a : Int) (ha : a ≤ 1000000000) : ∃ r, Ev (fun k => laws_markText.f k a) r := by
  unfold laws_markText.f
  by_cases h : a ≤ 0
  · simp only [eq_true h, if_true]
    exact ⟨_, Ev.now _⟩
  · simp only [eq_false h, if_false]
    exact markText_l0 a.toNat a _ (by omega) (Nat.le_refl _) ha (by simp [ByteArray.size]; omega)
/-- The mark's text. -/
noncomputable def mtext (a : Int) : ByteArray := @dite _ (∃ r, Ev (fun k => laws_markText.f k a) r) (Classical.propDecidable _) (fun h => Classical.choose h) (fun _ => ByteArray.empty)
theorem markText_ev (a : Int) (ha : a ≤ 1000000000) : Ev (fun k => laws_markText.f k a) (mtext a) := by
  unfold mtext
  rw [dif_pos (markText_some a ha)]
  exact Classical.choose_spec (markText_some a ha)
noncomputable def cmark (a : Int) (_ : S73) : S73 := ⟨mtext a, a + 1, a + 1 + 1⟩
noncomputable def markCards (a : Int) (l : List S73) : List S73 := markAll cmark (fun _ => 3) a l
theorem markCardS_ev (l : List S73) (a : Int) (h0 : 0 ≤ a) (ha : a + 3 * l.length ≤ 1000000000) : Ev (fun k => laws_markCardS.f k l a) (a + 3 * l.length, markCards a l) := by
  unfold laws_markCardS.f markCards
  have e : a + 3 * (l.length : Int) = markEnd (fun _ => 3) a l := by rw [markEnd_const]; omega
  rw [e]
  refine Ev.mark cmark (fun _ => 3) z73 1000000000 l.length (fun k s a j => laws_markCardS.l0 k s a j) ?_ ?_ l a rfl h0 (by rw [markEnd_const]; omega)
  · intro s j a r hj hs h0 h1 h
    refine Ev.succ ?_
    have h2 : ((j : Int) < (l.length : Int)) = True := eq_true (by omega)
    have h1 : a + 3 ≤ 1000000000 := h1
    have hg : ∀ v, rd_T73 (s.set j v) (j : Int) = v := by
      intro v
      rw [rdc, cat, List.getD_eq_getElem?_getD, List.getElem?_set_self (by omega)]
      rfl
    simp only [laws_markCardS.l0, hs, h2, if_true, nat_nonneg, Int.toNat_natCast, wrap_succ (show j < 4611686018427387904 by omega), wrap_id (x := a + 1) (by omega) (by omega), wrap_id (x := a + 1 + 1) (by omega) (by omega), wrap_id (x := a + 1 + 1 + 1) (by omega) (by omega), Option.bind_some, hg, List.set_set]
    refine Ev.bind (markText_ev a (by omega)) ?_
    have e3 : a + 1 + 1 + 1 = a + (3 : Nat) := by omega
    rw [e3]
    exact h
  · intro s a hs
    refine Ev.succ ?_
    simp only [laws_markCardS.l0, hs, Int.lt_irrefl, if_false]
    exact Ev.now _
theorem heldCardS_ev (l : List S73) (a : Int) (h0 : 0 ≤ a) (ha : a + 3 * l.length ≤ 1000000000) : Ev (fun k => laws_heldCardS.f k (markCards a l) a) (a + 3 * l.length) := by
  unfold laws_heldCardS.f markCards
  have e : a + 3 * (l.length : Int) = markEnd (fun _ => 3) a l := by rw [markEnd_const]; omega
  rw [e]
  refine Ev.held cmark (fun _ => 3) z73 1000000000 l.length (fun k s a j => laws_heldCardS.l0 k s a j) ?_ ?_ l a rfl h0 (by rw [markEnd_const]; omega)
  · intro s j a y r hj hs hg h0 h1 h
    refine Ev.succ ?_
    have h2 : ((j : Int) < (l.length : Int)) = True := eq_true (by omega)
    have h1 : a + 3 ≤ 1000000000 := h1
    have hg' : rd_T73 s (j : Int) = cmark a y := by rw [rdc]; exact hg
    simp only [laws_heldCardS.l0, hs, h2, if_true, nat_nonneg, hg', wrap_succ (show j < 4611686018427387904 by omega), wrap_id (x := a + 1) (by omega) (by omega), wrap_id (x := a + 1 + 1) (by omega) (by omega), wrap_id (x := a + 1 + 1 + 1) (by omega) (by omega)]
    refine Ev.bind (markText_ev a (by omega)) ?_
    simp only [cmark, if_true]
    have e3 : a + 1 + 1 + 1 = a + (3 : Nat) := by omega
    rw [e3]
    exact h
  · intro s a hs
    refine Ev.succ ?_
    simp only [laws_heldCardS.l0, hs, Int.lt_irrefl, if_false]
    exact Ev.now _
end Go.Proofs.Ytnkichilpildeaa.Pure
namespace Go.Proofs.Ytnkichilpildeaa.Pure
open Go.RowKit Go.Proofs.Ytnkichilpildeaa.Q Go.Proofs.YtnkichilpildeaaW.PrintWords Go.Proofs.YtnkichilpildeaaW.PrintLast

theorem ins_weak (l : List S73) (c : S73) (j : Nat) (hu : l.Pairwise fun a b => gk a < gk b) (h1 : ∀ x, x ∈ l.take j → gk x < gk c) (h2 : ∀ x, x ∈ l.drop j → ¬ gk x < gk c) : (l.take j ++ [c] ++ l.drop j).Pairwise fun a b => ¬ gk b < gk a := by
  have hw := weak_of_strict hu
  rw [List.pairwise_append, List.pairwise_append]
  refine ⟨⟨hw.sublist (List.take_sublist _ _), List.pairwise_singleton _ _, fun a ha b hb => by rw [List.mem_singleton.1 hb]; exact fun h => List.lt_irrefl _ (List.lt_trans (h1 a ha) h)⟩, hw.sublist (List.drop_sublist _ _), fun a ha b hb => ?_⟩
  rcases List.mem_append.1 ha with h | h
  · exact fun h3 => h2 b hb (List.lt_trans h3 (h1 a h))
  · rw [List.mem_singleton.1 h]; exact h2 b hb
theorem ins_perm (l : List S73) (c : S73) (j : Nat) : (l.take j ++ [c] ++ l.drop j).Perm (l ++ [c]) := by
  have h : (l.take j ++ [c] ++ l.drop j).Perm (l.take j ++ (l.drop j ++ [c])) := by
    rw [List.append_assoc]
    exact List.Perm.append_left _ List.perm_append_comm
  rw [← List.append_assoc, List.take_append_drop] at h
  exact h
def fin (t : List S73) : List S73 × Bool := if cgoodB t = true then (t, true) else ([], false)
theorem specAdd_l0 (l : List S73) (g : ByteArray) (d : Int) (hl : l.length ≤ 20) (hg : g.size ≤ 140737488351232) (hz : CSz l) (hu : l.Pairwise fun a b => gk a < gk b) : ∀ n j, j + n = l.length → (∀ x, x ∈ l.take j → gk x < g.data.toList) →
    ∃ t, Ev (fun k => spec_AddCard.l0 k l g d (j : Int)) (fin t) ∧ t.Perm (l ++ [⟨g, 0, d⟩]) ∧ t.Pairwise fun a b => ¬ gk b < gk a := by
  have hzt : ∀ j, CSz (l.take j ++ [⟨g, 0, d⟩] ++ l.drop j) := fun j => by
    rw [csz_iff]
    intro x hx
    rw [(ins_perm l ⟨g, 0, d⟩ j).mem_iff, List.mem_append, List.mem_singleton] at hx
    rcases hx with hx | rfl
    · exact (csz_iff l).1 hz x hx
    · exact hg
  have hlt : ∀ j, (l.take j ++ [(⟨g, 0, d⟩ : S73)] ++ l.drop j).length < 4611686018427387904 := fun j => by
    rw [(ins_perm l ⟨g, 0, d⟩ j).length_eq]
    simp
    omega
  intro n
  induction n with
  | zero =>
    intro j hj h1
    have hj' : j = l.length := by omega
    refine ⟨l.take j ++ [⟨g, 0, d⟩] ++ l.drop j, Ev.succ ?_, ins_perm _ _ _, ins_weak l ⟨g, 0, d⟩ j hu h1 (by rw [hj', List.drop_length]; intro x hx; cases hx)⟩
    have g1 : ((j : Int) < (l.length : Int)) = False := eq_false (by omega)
    have g2 : ((j : Int) ≤ (l.length : Int)) = True := eq_true (by omega)
    have g3 : (([] : List S73).length + (l.take j).length < 4398046511104) = True := eq_true (by simp; omega)
    have g4 : (([] ++ l.take j).length + [(⟨g, 0, d⟩ : S73)].length < 4398046511104) = True := eq_true (by simp; omega)
    have g5 : (([] ++ l.take j ++ [(⟨g, 0, d⟩ : S73)]).length + (l.drop j).length < 4398046511104) = True := eq_true (by simp; omega)
    simp only [spec_AddCard.l0, g1, g2, if_true, if_false, nat_nonneg, Option.bind_some, Int.toNat_natCast, g3, g4, g5]
    have h2 := rpGood_ev _ (hlt j) (hzt j)
    refine Ev.bind h2 ?_
    unfold fin
    simp only [List.nil_append]
    split
    · exact Ev.now _
    · exact Ev.now _
  | succ n ih =>
    intro j hj h1
    have hlt2 : j < l.length := by omega
    have g1 : ((j : Int) < (l.length : Int)) = True := eq_true (by omega)
    have hb : Op.bytesLess (cat l j).f0.toList g.toList = decide (gk l[j] < g.data.toList) := by
      have := cless (cat l j) ⟨g, 0, d⟩
      rw [cat_get l j hlt2] at this ⊢
      exact this
    by_cases h2 : gk l[j] < g.data.toList
    · obtain ⟨t, h3, h4⟩ := ih (j + 1) (by omega) (by
        intro x hx
        rw [List.take_succ_eq_append_getElem hlt2] at hx
        rcases List.mem_append.1 hx with h | h
        · exact h1 x h
        · rw [List.mem_singleton.1 h]; exact h2)
      refine ⟨t, Ev.succ ?_, h4⟩
      simp only [spec_AddCard.l0, g1, if_true, nat_nonneg, rdc, hb, decide_eq_true h2, wrap_succ (show j < 4611686018427387904 by omega)]
      exact h3
    · refine ⟨l.take j ++ [⟨g, 0, d⟩] ++ l.drop j, Ev.succ ?_, ins_perm _ _ _, ins_weak l ⟨g, 0, d⟩ j hu h1 ?_⟩
      · have g2 : ((j : Int) ≤ (l.length : Int)) = True := eq_true (by omega)
        have g3 : (([] : List S73).length + (l.take j).length < 4398046511104) = True := eq_true (by simp; omega)
        have g4 : (([] ++ l.take j).length + [(⟨g, 0, d⟩ : S73)].length < 4398046511104) = True := eq_true (by simp; omega)
        have g5 : (([] ++ l.take j ++ [(⟨g, 0, d⟩ : S73)]).length + (l.drop j).length < 4398046511104) = True := eq_true (by simp; omega)
        simp only [spec_AddCard.l0, g1, g2, if_true, nat_nonneg, rdc, hb, decide_eq_false h2, Bool.false_eq_true, if_false, Option.bind_some, Int.toNat_natCast, g3, g4, g5]
        have h2 := rpGood_ev _ (hlt j) (hzt j)
        refine Ev.bind h2 ?_
        unfold fin
        simp only [List.nil_append]
        split
        · exact Ev.now _
        · exact Ev.now _
      · intro x hx
        have hd : (l.drop j).Pairwise (fun a b => gk a < gk b) := hu.sublist (List.drop_sublist _ _)
        rw [List.drop_eq_getElem_cons hlt2] at hx hd
        rcases List.mem_cons.1 hx with h | h
        · rw [h]; exact h2
        · exact fun h3 => h2 (List.lt_trans ((List.pairwise_cons.1 hd).1 x h) h3)
noncomputable def addT (l : List S73) (g : ByteArray) (d : Int) : List S73 := slices_SortFunc_impl_Card.srt (l ++ [⟨g, 0, d⟩])
noncomputable def addR (l : List S73) (g : ByteArray) (d : Int) : List S73 × Bool := if cgoodB l && cardB g 0 d then fin (addT l g d) else ([], false)
theorem cmpless (a b : S73) : ltOf slices_SortFunc_impl_Card.cf a b = decide (gk a < gk b) := by
  unfold ltOf slices_SortFunc_impl_Card.cf gk
  rw [decide_eq_decide]
  exact Go.Proofs.YtnkichilpildeaaW.GSrt.compareBytes_neg _ _
theorem cswo : Go.Sort.SWO (ltOf slices_SortFunc_impl_Card.cf) :=
  ⟨fun a => by rw [cmpless]; exact decide_eq_false (List.lt_irrefl _),
    fun a b c h1 h2 => by rw [cmpless] at *; exact decide_eq_true (List.lt_trans (of_decide_eq_true h1) (of_decide_eq_true h2)),
    fun a b c h1 h2 => by rw [cmpless] at *; exact decide_eq_false (List.not_lt.2 (List.le_trans (List.not_lt.1 (of_decide_eq_false h2)) (List.not_lt.1 (of_decide_eq_false h1))))⟩
theorem addT_facts (l : List S73) (g : ByteArray) (d : Int) : (addT l g d).length = l.length + 1 ∧ (addT l g d).Perm (l ++ [⟨g, 0, d⟩]) ∧ (addT l g d).Pairwise fun a b => ¬ gk b < gk a := by
  obtain ⟨h1, h2, h3⟩ := @Go.Proofs.YtnkichilpildeaaW.GSrt.srt_facts _ ⟨z73⟩ slices_SortFunc_impl_Card.cf cswo (l ++ [⟨g, 0, d⟩])
  refine ⟨by unfold addT slices_SortFunc_impl_Card.srt; rw [h1]; simp, h2, h3.imp fun h => ?_⟩
  rw [cmpless] at h
  exact of_decide_eq_false h
theorem fin_same {s t : List S73} (hp : s.Perm t) (hs : s.Pairwise fun a b => ¬ gk b < gk a) (ht : t.Pairwise fun a b => ¬ gk b < gk a) : fin s = fin t := by
  by_cases h1 : cgoodB s = true
  · rw [sorted_same hp.symm ht ((cgood_iff s).1 h1).2.1]
  · by_cases h2 : cgoodB t = true
    · rw [sorted_same hp hs ((cgood_iff t).1 h2).2.1]
    · unfold fin
      rw [if_neg h1, if_neg h2]
theorem fin_length (t : List S73) : (fin t).1.length ≤ t.length := by
  unfold fin
  split
  · exact Nat.le_refl _
  · simp
theorem specAddCard_ev (l : List S73) (g : ByteArray) (d : Int) (hl : l.length ≤ 1048576) (hg : g.size ≤ 140737488351232) (hz : CSz l) : Ev (fun k => spec_AddCard.f k l g d) (addR l g d) := by
  unfold spec_AddCard.f addR
  refine Ev.bind (rpGood_ev l (by omega) hz) ?_
  rcases Bool.eq_false_or_eq_true (cgoodB l) with h | h
  · simp only [h, if_true, Bool.true_and]
    refine Ev.bind (fsWord_ev g (by omega)) ?_
    have hc : cardB g 0 d = (glossB g && inB d 0 99999) := by unfold cardB; simp [inB]
    rw [hc]
    rcases Bool.eq_false_or_eq_true (glossB g) with h2 | h2
    · simp only [h2, if_true, Bool.true_and, rpDay_eq, Option.bind_some]
      refine Ev.succ ?_
      rcases Bool.eq_false_or_eq_true (inB d 0 99999) with h3 | h3
      · simp only [spec_AddCard.j0, h3, Bool.not_true, Bool.false_eq_true, if_false, if_true]
        obtain ⟨_, hu, h20⟩ := (cgood_iff l).1 h
        obtain ⟨t, h4, h5, h6⟩ := specAdd_l0 l g d h20 hg hz hu l.length 0 (by omega) (by simp)
        obtain ⟨f1, f2, f3⟩ := addT_facts l g d
        rw [fin_same (f2.trans h5.symm) f3 h6]
        exact h4
      · simp only [spec_AddCard.j0, h3, Bool.not_false, if_true]
        exact Ev.now _
    · simp only [h2, Bool.false_eq_true, if_false, Bool.false_and]
      refine Ev.succ ?_
      simp only [spec_AddCard.j0, if_true]
      exact Ev.now _
  · simp only [h, Bool.false_eq_true, if_false, Bool.false_and]
    refine Ev.succ ?_
    simp only [spec_AddCard.j0, if_true]
    exact Ev.now _
theorem implAddCard_ev (l : List S73) (g : ByteArray) (d : Int) (hl : l.length ≤ 1048576) (hg : g.size ≤ 140737488351232) (hz : CSz l) : Ev (fun k => impl_AddCard.f k l g d) (addR l g d) := by
  unfold impl_AddCard.f addR
  refine Ev.bind (areCards_ev l (by omega) hz) ?_
  rcases Bool.eq_false_or_eq_true (cgoodB l) with h | h
  · simp only [h, if_true, Bool.true_and]
    refine Ev.bind (isCard_ev g 0 d (by omega)) ?_
    refine Ev.succ ?_
    rcases Bool.eq_false_or_eq_true (cardB g 0 d) with h2 | h2
    · have g1 : (([] : List S73).length + l.length < 4398046511104) = True := eq_true (by simp; omega)
      have g2 : (l.length + [(⟨g, 0, d⟩ : S73)].length < 4398046511104) = True := eq_true (by simp; omega)
      have g3 : ((l ++ [(⟨g, 0, d⟩ : S73)]).length < 4611686018427387904) = True := eq_true (by simp; omega)
      simp only [impl_AddCard.j0, h2, Bool.not_true, Bool.false_eq_true, if_false, if_true, slices_Clone_impl_Card.f, Option.bind_some, g1, g2, slices_SortFunc_impl_Card.f, List.nil_append, g3]
      obtain ⟨f1, f2, f3⟩ := addT_facts l g d
      refine Ev.bind (areCards_ev (addT l g d) (by omega) ?_) ?_
      · rw [csz_iff]
        intro x hx
        rw [f2.mem_iff, List.mem_append, List.mem_singleton] at hx
        rcases hx with hx | rfl
        · exact (csz_iff l).1 hz x hx
        · exact hg
      · unfold fin
        split
        · exact Ev.now _
        · exact Ev.now _
    · simp only [impl_AddCard.j0, h2, Bool.not_false, if_true]
      exact Ev.now _
  · simp only [h, Bool.false_eq_true, if_false, Bool.false_and]
    refine Ev.succ ?_
    simp only [impl_AddCard.j0, if_true]
    exact Ev.now _
theorem addR_length (l : List S73) (g : ByteArray) (d : Int) : (addR l g d).1.length ≤ l.length + 1 := by
  unfold addR
  split
  · have := fin_length (addT l g d)
    rw [(addT_facts l g d).1] at this
    exact this
  · simp

theorem FnExactAddCard : laws_FnExactAddCard.Pure := by
  intro l g a h hz hg _
  refine Ev.rounds ?_
  unfold laws_FnExactAddCard.f
  by_cases h00 : (g.size : Int) > 1048576
  · simp only [eq_true h00, if_true]
    exact Ev.now _
  simp only [eq_false h00, if_false]
  obtain ⟨r, hb, hr⟩ := szCardS_ev l h hz
  refine Ev.bind hr ?_
  by_cases h0 : r < 0
  · simp only [eq_true h0, if_true]
    exact Ev.now _
  simp only [eq_false h0, if_false]
  have hb' := hb (by omega)
  have hk : (l.map cconv).length ≤ 1048576 := by rw [List.length_map]; exact hb'
  have hm : (l.map cconv).length < 4611686018427387904 := by omega
  have hs := csz_map l hz
  have hle := addR_length (l.map cconv) g a
  have hi : (addR (l.map cconv) g a).1.length < 4611686018427387904 := by omega
  refine Ev.bind (toCardS_ev l h) ?_
  refine Ev.bind (specAddCard_ev _ g a hk (by omega) hs) ?_
  refine Ev.bind (toCardS_ev l h) ?_
  refine Ev.bind (implAddCard_ev _ g a hk (by omega) hs) ?_
  refine Ev.bind (eqCardS_ev _ hi) ?_
  simp only [bne_self_eq_false, if_true]
  refine Ev.succ ?_
  simp only [laws_FnExactAddCard.j0, Bool.false_eq_true, if_false]
  refine Ev.bind (toCardS_ev l h) ?_
  refine Ev.bind (eqCardS_ev _ hm) ?_
  simp only [if_true]
  refine Ev.bind (markCardS_ev _ 1 (by decide) (by omega)) ?_
  simp only [show (1 + 3 * ((l.map cconv).length : Int) < 0) = False from eq_false (by omega), if_false]
  refine Ev.bind (eqCardS_ev _ hi) ?_
  simp only [bne_self_eq_false, if_true]
  refine Ev.succ ?_
  simp only [laws_FnExactAddCard.j1, Bool.false_eq_true, if_false]
  refine Ev.bind (markCardS_ev _ 1 (by decide) (by omega)) ?_
  refine Ev.bind (heldCardS_ev _ 1 (by decide) (by omega)) ?_
  simp only [show (1 + 3 * ((addR (l.map cconv) g a).1.length : Int) < 0) = False from eq_false (by omega), if_false, if_true]
  refine Ev.bind (toCardS_ev l h) ?_
  refine Ev.bind (implAddCard_ev _ g a hk (by omega) hs) ?_
  refine Ev.bind (eqCardS_ev _ hi) ?_
  simp only [bne_self_eq_false, if_true]
  refine Ev.succ ?_
  simp only [laws_FnExactAddCard.j2, Bool.false_eq_true, if_false]
  refine Ev.bind (heldCardS_ev _ 1 (by decide) (by omega)) ?_
  simp only [show (1 + 3 * ((addR (l.map cconv) g a).1.length : Int) < 0) = False from eq_false (by omega), if_false, if_true]
  exact Ev.now _
end Go.Proofs.Ytnkichilpildeaa.Pure
