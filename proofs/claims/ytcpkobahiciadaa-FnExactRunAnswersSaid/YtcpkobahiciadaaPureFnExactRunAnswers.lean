/- For all lists of cards and of answers, the program's RunAnswers returns what the reference's RunAnswers returns, leaves both lists alone, and hands back memory of its own. No condition. -/
import Derived.Test.YtcpkobahiciadaaQBImplCardOf
import Derived.Test.YtcpkobahiciadaaQBImplRunAnswers1
import Derived.Test.YtcpkobahiciadaaQBLawsEqCard
import Derived.Test.YtcpkobahiciadaaQBLawsMarkAnswerS
import Derived.Test.YtcpkobahiciadaaQBLawsSzCard
import Derived.Test.YtcpkobahiciadaaQBLawsToCard
import Derived.Test.YtcpkobahiciadaaQBSlicesCloneImplCard
import Derived.Test.YtcpkobahiciadaaQBSpecL1Least
import Derived.Test.YtcpkobahiciadaaQBounds
import Derived.Test.YtcpkobahiciadaaQImplAllOfImplAnswer
import Derived.Test.YtcpkobahiciadaaQImplAreCards
import Derived.Test.YtcpkobahiciadaaQImplCardAnswered
import Derived.Test.YtcpkobahiciadaaQImplRunAnswers
import Derived.Test.YtcpkobahiciadaaQLawsFnExactRunAnswers
import Derived.Test.YtcpkobahiciadaaQSlicesIndexFuncImplCard
import Derived.Test.YtcpkobahiciadaaQSpecRpGood
import Derived.Test.YtcpkobahiciadaaQSpecRunAnswers
import Derived.Test.YtcpkobahiciadaaQ0
import Derived.Test.YtcpkobahiciadaaWWords
import Derived.Lib.Bytealg
import Derived.Test.YtcpkobahiciadaaGStr
import Derived.Test.YtcpkobahiciadaaGIdx
set_option linter.unusedVariables false
set_option linter.unusedSimpArgs false
namespace Go.Proofs.Ytcpkobahiciadaa.Pure
open Go.RowKit Go.Proofs.Ytcpkobahiciadaa.Q Go.Proofs.YtcpkobahiciadaaW.PrintLast Go.Proofs.YtcpkobahiciadaaW.PrintMore Go.Proofs.YtcpkobahiciadaaW.PrintWords
theorem Ev.succ {α : Type} {g : Nat → Option α} {r : α} (h : Ev (fun k => g (k + 1)) r) : Ev g r := Ev.step (fun _ => rfl) h
theorem Ev.k {α : Type} {g : Nat → Option α} {o : Option α} {r : α} (hg : ∀ k, g k = o) (h : o = some r) : Ev g r := ⟨0, fun k _ => (hg k).trans h⟩
theorem Ev.eq {α : Type} {g : Nat → Option α} {r r' : α} (h : Ev g r) (e : r = r') : Ev g r' := e ▸ h
theorem Ev.unique {α : Type} {g : Nat → Option α} {r r' : α} (h : Ev g r) (h' : Ev g r') : r = r' := by
 obtain ⟨K, h⟩ := h
 obtain ⟨K', h'⟩ := h'
 have a := h (max K K') (Nat.le_max_left _ _)
 have b := h' (max K K') (Nat.le_max_right _ _)
 rw [a] at b
 exact Option.some.inj b
/-- From round i up to round n. -/
theorem Ev.upto {β : Type} {L : Nat → Nat → Option β} {r : β} {n : Nat} (hend : Ev (fun k => L k n) r)
  (hstep : ∀ j, j < n → Ev (fun k => L k (j + 1)) r → Ev (fun k => L k j) r) : ∀ i, i ≤ n → Ev (fun k => L k i) r := by
 intro i hi
 obtain ⟨d, hd⟩ : ∃ d, n = i + d := ⟨n - i, by omega⟩
 induction d generalizing i with
 | zero => simp at hd; subst hd; exact hend
 | succ d ih => exact hstep i (by omega) (ih (i + 1) (by omega) (by omega))
/-- A loop that ends early where P fails. -/
theorem Ev.all {β : Type} {L : Nat → Nat → Option β} {P : Nat → Bool} {n : Nat} {a b : β} (hend : Ev (fun k => L k n) a)
  (hyes : ∀ j r, j < n → P j = true → Ev (fun k => L k (j + 1)) r → Ev (fun k => L k j) r) (hno : ∀ j, j < n → P j = false → Ev (fun k => L k j) b) :
  ∀ i, i ≤ n → Ev (fun k => L k i) (if (List.range' i (n - i)).all P then a else b) := by
 intro i hi
 obtain ⟨d, hd⟩ : ∃ d, n = i + d := ⟨n - i, by omega⟩
 induction d generalizing i with
 | zero => simp at hd; subst hd; simpa using hend
 | succ d ih =>
  have h1 : n - i = (n - (i + 1)) + 1 := by omega
  rw [h1, List.range'_succ]
  simp only [List.all_cons]
  rcases Bool.eq_false_or_eq_true (P i) with hP | hP
  ·simp only [hP, Bool.true_and]
   exact hyes i _ (by omega) hP (ih (i + 1) (by omega) (by omega))
  ·simpa [hP] using hno i (by omega) hP
theorem Ev.all0 {β : Type} {L : Nat → Nat → Option β} {P : Nat → Bool} {n : Nat} {a b : β} (hend : Ev (fun k => L k n) a)
  (hyes : ∀ j r, j < n → P j = true → Ev (fun k => L k (j + 1)) r → Ev (fun k => L k j) r) (hno : ∀ j, j < n → P j = false → Ev (fun k => L k j) b) :
  Ev (fun k => L k 0) (if (List.range n).all P then a else b) := by
 have := Ev.all hend hyes hno 0 (Nat.zero_le _)
 rwa [Nat.sub_zero, ← List.range_eq_range'] at this

theorem wrap_id {x : Int} (h0 : -9223372036854775808 ≤ x) (h1 : x ≤ 9223372036854775807) : wrap64 x = x := by
 unfold wrap64
 omega
theorem wrap_succ {n : Nat} (h : n < 4611686018427387904) : wrap64 ((n : Int) + 1) = ((n + 1 : Nat) : Int) := by
 rw [wrap_id (by omega) (by omega)]
 omega
theorem wrap_pred {n : Nat} (h0 : 0 < n) (h : n < 4611686018427387904) : wrap64 ((n : Int) - 1) = ((n - 1 : Nat) : Int) := by
 rw [wrap_id (by omega) (by omega)]
 omega
theorem nat_nonneg (n : Nat) : (0 ≤ (n : Int)) = True := eq_true (Int.natCast_nonneg n)
theorem getD_map {α β : Type} (f : α → β) (l : List α) (i : Nat) (d : α) (e : β) (h : i < l.length) : (l.map f).getD i e = f (l.getD i d) := by
 simp [List.getD_eq_getElem?_getD, List.getElem?_eq_getElem h]

/-- A copy, element by element, into a row that was made. -/
theorem Ev.copy {α β : Type} (f : α → β) (l : List α) (za : α) (zb : β) (L : Nat → List β → Int → Option (List β))
  (hstep : ∀ (j : Nat) (s r : List β), j < l.length → s.length = l.length → Ev (fun k => L k (s.set j (f (l.getD j za))) ((j + 1 : Nat) : Int)) r → Ev (fun k => L k s (j : Int)) r)
  (hend : ∀ s : List β, s.length = l.length → Ev (fun k => L k s (l.length : Int)) s) : Ev (fun k => L k (List.replicate l.length zb) 0) (l.map f) := by
 have key := Ev.upto (L := fun k j => L k ((l.map f).take j ++ List.replicate (l.length - j) zb) (j : Int)) (r := l.map f) (n := l.length)
  (by
   have h := hend ((l.map f).take l.length ++ List.replicate (l.length - l.length) zb) (by simp)
   refine Ev.eq h ?_
   rw [Nat.sub_self, List.replicate_zero, List.append_nil, List.take_of_length_le (by simp)])
  (by
   intro j hj h
   have hlen : ((l.map f).take j ++ List.replicate (l.length - j) zb).length = l.length := by simp; omega
   refine hstep j _ _ hj hlen ?_
   have e : ((l.map f).take j ++ List.replicate (l.length - j) zb).set j (f (l.getD j za)) = (l.map f).take (j + 1) ++ List.replicate (l.length - (j + 1)) zb := by
    have e1 : l.length - j = (l.length - (j + 1)) + 1 := by omega
    rw [e1, List.replicate_succ, List.set_append_right _ _ (by simp; omega)]
    have e2 : j - ((l.map f).take j).length = 0 := by simp; omega
    rw [e2, List.set_cons_zero, List.take_succ_eq_append_getElem (by simpa using hj)]
    simp [List.getD_eq_getElem?_getD, List.getElem?_eq_getElem hj]
   rw [e]
   exact h)
  0 (Nat.zero_le _)
 simpa using key
/-- What is left of a size, or that it was passed. -/
theorem Ev.sz {L : Nat → Nat → Int → Option Int} {n : Nat}
  (hstep : ∀ (j : Nat) (a : Int), j < n → 0 ≤ a → a ≤ 1048576 → (∃ a', 0 ≤ a' ∧ a' ≤ a ∧ ∀ r, Ev (fun k => L k (j + 1) a') r → Ev (fun k => L k j a) r) ∨ Ev (fun k => L k j a) (-1))
  (hend : ∀ a : Int, 0 ≤ a → a ≤ 1048576 → Ev (fun k => L k n a) a) :
  ∀ (j : Nat), j ≤ n → ∀ a : Int, 0 ≤ a → a ≤ 1048576 → ∃ r, r ≤ a ∧ Ev (fun k => L k j a) r := by
 intro j hj
 obtain ⟨d, hd⟩ : ∃ d, n = j + d := ⟨n - j, by omega⟩
 induction d generalizing j with
 | zero => simp at hd; subst hd; exact fun a h0 h1 => ⟨a, Int.le_refl _, hend a h0 h1⟩
 | succ d ih =>
  intro a h0 h1
  rcases hstep j a (by omega) h0 h1 with ⟨a', h2, h3, h4⟩ | h5
  ·obtain ⟨r, h6, h7⟩ := ih (j + 1) (by omega) (by omega) a' h2 (by omega)
   exact ⟨r, by omega, h4 r h7⟩
  ·exact ⟨-1, by omega, h5⟩
/-- The marks of a row: m a x is x marked from a on, c x how many marks that takes. -/
def markAll {β : Type} (m : Int → β → β) (c : β → Nat) : Int → List β → List β
 | _, [] => []
 | a, x :: r => m a x :: markAll m c (a + c x) r
def markEnd {β : Type} (c : β → Nat) : Int → List β → Int
 | a, [] => a
 | a, x :: r => markEnd c (a + c x) r
theorem markEnd_ge {β : Type} (c : β → Nat) : ∀ (l : List β) (a : Int), a ≤ markEnd c a l
 | [], a => Int.le_refl _
 | x :: r, a => by have := markEnd_ge c r (a + c x); simp only [markEnd]; omega
theorem markAll_length {β : Type} (m : Int → β → β) (c : β → Nat) : ∀ (l : List β) (a : Int), (markAll m c a l).length = l.length
 | [], _ => rfl
 | x :: r, a => by simp [markAll, markAll_length m c r]
theorem markEnd_const {β : Type} (n : Nat) : ∀ (l : List β) (a : Int), markEnd (fun _ => n) a l = a + n * l.length
 | [], a => by simp [markEnd]
 | x :: r, a => by
  simp only [markEnd, markEnd_const n r, List.length_cons]
  have : (n : Int) * ((r.length + 1 : Nat) : Int) = n * r.length + n := by rw [Int.natCast_add, Int.mul_add]; simp
  omega
theorem Ev.mark {β : Type} (m : Int → β → β) (c : β → Nat) (z : β) (B : Int) (N : Nat) (L : Nat → List β → Int → Int → Option (Int × List β))
  (hstep : ∀ (s : List β) (j : Nat) (a : Int) (r : Int × List β), j < N → s.length = N → 0 ≤ a → a + c (s.getD j z) ≤ B → Ev (fun k => L k (s.set j (m a (s.getD j z))) (a + c (s.getD j z)) ((j + 1 : Nat) : Int)) r → Ev (fun k => L k s a (j : Int)) r)
  (hend : ∀ (s : List β) (a : Int), s.length = N → Ev (fun k => L k s a (N : Int)) (a, s)) :
  ∀ (l : List β) (a : Int), l.length = N → 0 ≤ a → markEnd c a l ≤ B → Ev (fun k => L k l a 0) (markEnd c a l, markAll m c a l) := by
 have key : ∀ (l d : List β) (a : Int), d.length + l.length = N → 0 ≤ a → markEnd c a l ≤ B → Ev (fun k => L k (d ++ l) a (d.length : Int)) (markEnd c a l, d ++ markAll m c a l) := by
  intro l
  induction l with
  | nil =>
   intro d a hN _ _
   simp only [List.append_nil, markEnd, markAll]
   rw [List.length_nil, Nat.add_zero] at hN
   rw [hN]
   exact hend d a hN
  | cons x r ih =>
   intro d a hN h0 h1
   rw [List.length_cons] at hN
   have hx : (d ++ x :: r).getD d.length z = x := by simp [List.getD_eq_getElem?_getD]
   have hB := markEnd_ge c r (a + c x)
   simp only [markEnd] at h1
   refine hstep _ _ _ _ (by omega) (by simp; omega) h0 (by rw [hx]; omega) ?_
   rw [hx]
   have e : (d ++ x :: r).set d.length (m a x) = (d ++ [m a x]) ++ r := by
    rw [List.set_append_right _ _ (Nat.le_refl _), Nat.sub_self, List.set_cons_zero, List.append_assoc]
    rfl
   have h2 := ih (d ++ [m a x]) (a + c x) (by simp; omega) (by omega) h1
   rw [e]
   simpa [markAll, markEnd] using h2
 intro l a hN h0 h1
 simpa using key l [] a (by simpa using hN) h0 h1
theorem Ev.held {β : Type} (m : Int → β → β) (c : β → Nat) (z : β) (B : Int) (N : Nat) (L : Nat → List β → Int → Int → Option Int)
  (hstep : ∀ (s : List β) (j : Nat) (a : Int) (y : β) (r : Int), j < N → s.length = N → s.getD j z = m a y → 0 ≤ a → a + c y ≤ B → Ev (fun k => L k s (a + c y) ((j + 1 : Nat) : Int)) r → Ev (fun k => L k s a (j : Int)) r)
  (hend : ∀ (s : List β) (a : Int), s.length = N → Ev (fun k => L k s a (N : Int)) a) :
  ∀ (l : List β) (a : Int), l.length = N → 0 ≤ a → markEnd c a l ≤ B → Ev (fun k => L k (markAll m c a l) a 0) (markEnd c a l) := by
 have key : ∀ (l d : List β) (a : Int), d.length + l.length = N → 0 ≤ a → markEnd c a l ≤ B → Ev (fun k => L k (d ++ markAll m c a l) a (d.length : Int)) (markEnd c a l) := by
  intro l
  induction l with
  | nil =>
   intro d a hN _ _
   simp only [List.append_nil, markEnd, markAll]
   rw [List.length_nil, Nat.add_zero] at hN
   rw [hN]
   exact hend d a hN
  | cons x r ih =>
   intro d a hN h0 h1
   rw [List.length_cons] at hN
   have hB := markEnd_ge c r (a + c x)
   simp only [markEnd] at h1
   refine hstep _ _ _ x _ (by omega) (by simp [markAll, markAll_length]; omega) (by simp [markAll, List.getD_eq_getElem?_getD]) h0 (by omega) ?_
   have h2 := ih (d ++ [m a x]) (a + c x) (by simp; omega) (by omega) h1
   simpa [markAll, markEnd] using h2
 intro l a hN h0 h1
 simpa using key l [] a (by simpa using hN) h0 h1
def inB (a b c : Int) : Bool := decide (b ≤ a ∧ a ≤ c)
theorem l1In_eq (a b c : Int) : spec_l1In.f a b c = some (inB a b c) := by
 unfold spec_l1In.f inB
 split <;> simp <;> omega
theorem within_eq (a b c : Int) : impl_within.f a b c = some (inB a b c) := by
 unfold impl_within.f inB
 split <;> simp <;> omega
def capAt (s : ByteArray) (j : Nat) : Bool := decide (65 ≤ bt s j ∧ bt s j ≤ 90)
def glossB (s : ByteArray) : Bool := inB s.size 1 8 && (List.range s.size).all (capAt s)
def caps : ByteArray := ⟨#[65, 66, 67, 68, 69, 70, 71, 72, 73, 74, 75, 76, 77, 78, 79, 80, 81, 82, 83, 84, 85, 86, 87, 88, 89, 90]⟩
theorem caps_all : ((List.range 256).all fun n => decide (Lib.indexByte caps.data.toList n.toUInt8 < 0) == !(decide (65 ≤ n ∧ n ≤ 90))) = true := by decide +kernel
theorem caps_index (b : Int) (h0 : 0 ≤ b) (h1 : b ≤ 255) : (Lib.indexByte caps.data.toList b.toNat.toUInt8 < 0) ↔ ¬ (65 ≤ b ∧ b ≤ 90) := by
 have h := List.all_eq_true.1 caps_all b.toNat (List.mem_range.2 (by omega))
 simp only [beq_iff_eq] at h
 by_cases hc : 65 ≤ b ∧ b ≤ 90
 ·have h2 : decide (65 ≤ b.toNat ∧ b.toNat ≤ 90) = true := decide_eq_true (by omega)
  rw [h2] at h
  exact ⟨fun h3 => absurd h3 (of_decide_eq_false h), fun h3 => absurd hc h3⟩
 ·have h2 : decide (65 ≤ b.toNat ∧ b.toNat ≤ 90) = false := decide_eq_false (by omega)
  rw [h2] at h
  exact ⟨fun _ => hc, fun _ => of_decide_eq_true h⟩
theorem hasOnly_ev (s : ByteArray) (hs : s.size < 4611686018427387904) : Ev (fun k => impl_hasOnly.f k s caps) ((List.range s.size).all (capAt s)) := by
 unfold impl_hasOnly.f
 refine Ev.eq (Ev.all0 (L := fun k j => impl_hasOnly.l0 k s caps (s.size : Int) (j : Int)) (P := capAt s) (n := s.size) (a := true) (b := false) ?_ ?_ ?_) (by split <;> simp_all)
 ·refine Ev.succ ?_
  simp only [impl_hasOnly.l0, Int.lt_irrefl, if_false]
  exact Ev.now _
 ·intro j r hj hP h
  refine Ev.succ ?_
  have h1 : ((j : Int) < (s.size : Int)) = True := eq_true (by omega)
  have hb := bt_range s (j : Int)
  have h2 : (Lib.indexByte caps.data.toList (bt s (j : Int)).toNat.toUInt8 < 0) = False := eq_false (fun hc => (caps_index _ hb.1 hb.2).1 hc (of_decide_eq_true hP))
  simp only [impl_hasOnly.l0, strings_IndexByte.f, Option.bind_some, h1, if_true, nat_nonneg, h2, if_false, wrap_succ (show j < 4611686018427387904 by omega)]
  exact h
 ·intro j hj hP
  refine Ev.succ ?_
  have h1 : ((j : Int) < (s.size : Int)) = True := eq_true (by omega)
  have hb := bt_range s (j : Int)
  have h2 : (Lib.indexByte caps.data.toList (bt s (j : Int)).toNat.toUInt8 < 0) = True := eq_true ((caps_index _ hb.1 hb.2).2 (of_decide_eq_false hP))
  simp only [impl_hasOnly.l0, strings_IndexByte.f, Option.bind_some, h1, if_true, nat_nonneg, h2]
  exact Ev.now _
theorem isGloss_ev (s : ByteArray) (hs : s.size < 4611686018427387904) : Ev (fun k => impl_IsGloss.f k s) (glossB s) := by
 unfold impl_IsGloss.f impl_isWordOf.f glossB
 refine Ev.bind (a := inB s.size 1 8 && (List.range s.size).all (capAt s)) ?_ (Ev.now _)
 simp only [within_eq, Option.bind_some]
 rcases Bool.eq_false_or_eq_true (inB s.size 1 8) with h | h
 ·simp only [h, if_true, Bool.true_and]
  exact Ev.bind (hasOnly_ev s hs) (Ev.now _)
 ·simp only [h]
  exact Ev.now _
theorem fsWord_ev (s : ByteArray) (hs : s.size < 4611686018427387904) : Ev (fun k => spec_fsWord.f k s) (glossB s) := by
 unfold spec_fsWord.f
 refine Ev.eq (Ev.all0 (L := fun k j => spec_fsWord.l0 k s (j : Int)) (P := capAt s) (n := s.size) (a := inB s.size 1 8) (b := false) ?_ ?_ ?_) (by unfold glossB; split <;> simp_all)
 ·refine Ev.succ ?_
  simp only [spec_fsWord.l0, Int.lt_irrefl, if_false, l1In_eq, Option.bind_some]
  exact Ev.now _
 ·intro j r hj hP h
  refine Ev.succ ?_
  have h1 : ((j : Int) < (s.size : Int)) = True := eq_true (by omega)
  have hP' := of_decide_eq_true hP
  simp only [spec_fsWord.l0, h1, if_true, nat_nonneg, show (bt s (j : Int) < 65) = False from eq_false (by omega), show (bt s (j : Int) > 90) = False from eq_false (by omega), if_false, wrap_succ (show j < 4611686018427387904 by omega)]
  exact h
 ·intro j hj hP
  refine Ev.succ ?_
  have h1 : ((j : Int) < (s.size : Int)) = True := eq_true (by omega)
  have hP' := of_decide_eq_false hP
  simp only [spec_fsWord.l0, h1, if_true, nat_nonneg]
  by_cases h2 : bt s (j : Int) < 65
  ·simp only [eq_true h2, if_true]
   exact Ev.now _
  ·simp only [eq_false h2, if_false, show (bt s (j : Int) > 90) = True from eq_true (by omega), if_true]
   exact Ev.now _
def cardB (g : ByteArray) (b d : Int) : Bool := glossB g && (inB b 0 5 && inB d 0 99999)
theorem isFrame_eq (d : Int) : impl_isFrame.f d = some (inB d 0 99999) := by
 unfold impl_isFrame.f
 simp only [within_eq, Option.bind_some]
theorem rpDay_eq (d : Int) : spec_rpDay.f d = some (inB d 0 99999) := by
 unfold spec_rpDay.f
 simp only [l1In_eq, Option.bind_some]
theorem isCard_ev (g : ByteArray) (b d : Int) (hs : g.size < 4611686018427387904) : Ev (fun k => impl_isCard.f k g b d) (cardB g b d) := by
 unfold impl_isCard.f cardB
 refine Ev.bind (isGloss_ev g hs) ?_
 simp only [within_eq, isFrame_eq, Option.bind_some]
 rcases Bool.eq_false_or_eq_true (glossB g) with h | h <;> rcases Bool.eq_false_or_eq_true (inB b 0 5) with h2 | h2 <;> simp only [h, h2] <;> exact Ev.now _
theorem rpOne_ev (g : ByteArray) (b d : Int) (hs : g.size < 4611686018427387904) : Ev (fun k => spec_rpOne.f k g b d) (cardB g b d) := by
 unfold spec_rpOne.f cardB
 refine Ev.bind (fsWord_ev g hs) ?_
 simp only [l1In_eq, rpDay_eq, Option.bind_some]
 rcases Bool.eq_false_or_eq_true (glossB g) with h | h <;> rcases Bool.eq_false_or_eq_true (inB b 0 5) with h2 | h2 <;> simp only [h, h2] <;> exact Ev.now _
theorem shl1 (b : Int) (h0 : 0 ≤ b) (h1 : b ≤ 5) : shl .i64 1 b = 2 ^ b.toNat ∧ 1 ≤ (2 : Int) ^ b.toNat ∧ (2 : Int) ^ b.toNat ≤ 32 := by
 have h : b = 0 ∨ b = 1 ∨ b = 2 ∨ b = 3 ∨ b = 4 ∨ b = 5 := by omega
 rcases h with rfl | rfl | rfl | rfl | rfl | rfl <;> decide +kernel
theorem u64_id (b : Int) (h0 : 0 ≤ b) (h1 : b ≤ 6) : IntKind.u64.wrap b = b := by
 have h : b = 0 ∨ b = 1 ∨ b = 2 ∨ b = 3 ∨ b = 4 ∨ b = 5 ∨ b = 6 := by omega
 rcases h with rfl | rfl | rfl | rfl | rfl | rfl | rfl <;> decide +kernel
def pw (b : Int) : Int := 2 ^ b.toNat
theorem daysFor_eq (b : Int) (h0 : 0 ≤ b) (h1 : b ≤ 5) : impl_daysFor.f b = some (pw b) := by
 unfold impl_daysFor.f
 rw [if_pos h0, (shl1 b h0 h1).1]
 rfl
theorem pw_bounds (b : Int) (h0 : 0 ≤ b) (h1 : b ≤ 5) : 1 ≤ pw b ∧ pw b ≤ 32 := (shl1 b h0 h1).2
def boxOf (b : Int) (right : Bool) : Int := if right then mn (b + 1) 5 else 0
theorem boxOf_bounds (b : Int) (right : Bool) (h0 : 0 ≤ b) (h1 : b ≤ 5) : 0 ≤ boxOf b right ∧ boxOf b right ≤ 5 := by
 unfold boxOf mn
 split
 ·split <;> omega
 ·omega
/-- The card after an answer; the last is false where it fails. -/
def nextR (g : ByteArray) (b d day : Int) (right : Bool) : ByteArray × Int × Int × Bool :=
 if day < d then (⟨#[]⟩, 0, 0, false) else if inB (day + pw (boxOf b right)) 0 99999 then (g, boxOf b right, day + pw (boxOf b right), true) else (⟨#[]⟩, 0, 0, false)
theorem cardB_parts {g : ByteArray} {b d : Int} (h : cardB g b d = true) : glossB g = true ∧ (0 ≤ b ∧ b ≤ 5) ∧ (0 ≤ d ∧ d ≤ 99999) := by
 simp only [cardB, Bool.and_eq_true, inB, decide_eq_true_eq] at h
 exact h
theorem least_eq (b : Int) : spec_l1Least.f 5 b = some (mn b 5) := by
 unfold spec_l1Least.f mn
 split <;> rfl
theorem rpNext_eq (g : ByteArray) (b d day : Int) (right : Bool) (h : cardB g b d = true) (hd : 0 ≤ day ∧ day ≤ 99999) : spec_rpNext.f g b d day right = some (nextR g b d day right) := by
 obtain ⟨_, hb, hdd⟩ := cardB_parts h
 have hx := boxOf_bounds b right hb.1 hb.2
 have hp := pw_bounds _ hx.1 hx.2
 unfold spec_rpNext.f nextR
 by_cases h1 : d > day
 ·rw [if_pos h1, if_pos (show day < d by omega)]
 ·rw [if_neg h1, if_neg (show ¬ day < d by omega)]
  cases right with
  | true =>
   have e : boxOf b true = mn (b + 1) 5 := rfl
   rw [e] at hx hp ⊢
   have hs : shl .i64 1 (mn (b + 1) 5) = pw (mn (b + 1) 5) := (shl1 _ hx.1 hx.2).1
   simp only [if_true, wrap_id (x := b + 1) (by omega) (by omega), least_eq, Option.bind_some, u64_id (mn (b + 1) 5) hx.1 (by omega), show (0 ≤ mn (b + 1) 5) = True from eq_true hx.1, hs, wrap_id (x := day + pw (mn (b + 1) 5)) (by omega) (by omega), rpDay_eq]
   split <;> simp_all
  | false =>
   have e : boxOf b false = 0 := rfl
   have e2 : pw 0 = 1 := by decide +kernel
   rw [e, e2]
   simp only [wrap_id (x := day + 1) (by omega) (by omega), rpDay_eq, Option.bind_some]
   rcases Bool.eq_false_or_eq_true (inB (day + 1) 0 99999) with h2 | h2 <;> simp [h2]
theorem answered_ev (g : ByteArray) (b d day : Int) (right : Bool) (hs : g.size < 4611686018427387904) (h : cardB g b d = true) (hd : 0 ≤ day ∧ day ≤ 99999) : Ev (fun k => impl_Card_answered.f k g b d day right) (nextR g b d day right) := by
 obtain ⟨hg, hb, hdd⟩ := cardB_parts h
 have hx := boxOf_bounds b right hb.1 hb.2
 have hp := pw_bounds _ hx.1 hx.2
 have key : Ev (fun k => impl_Card_answered.j0 k day (boxOf b right) g b d) (nextR g b d day right) := by
  refine Ev.succ ?_
  unfold nextR
  simp only [impl_Card_answered.j0, daysFor_eq _ hx.1 hx.2, Option.bind_some]
  by_cases h1 : day < d
  ·simp only [eq_true h1, if_true]
   exact Ev.now _
  ·simp only [eq_false h1, if_false, wrap_id (x := day + pw (boxOf b right)) (by omega) (by omega)]
   refine Ev.bind (isCard_ev g _ _ hs) ?_
   have e : cardB g (boxOf b right) (day + pw (boxOf b right)) = inB (day + pw (boxOf b right)) 0 99999 := by
    unfold cardB
    rw [hg, show inB (boxOf b right) 0 5 = true from decide_eq_true hx]
    simp
   rw [e]
   rcases Bool.eq_false_or_eq_true (inB (day + pw (boxOf b right)) 0 99999) with h2 | h2 <;> simp only [h2] <;> exact Ev.now _
 unfold impl_Card_answered.f
 cases right with
 | true =>
  have e : boxOf b true = mn (b + 1) 5 := rfl
  rw [e] at key
  simp only [if_true, wrap_id (x := b + 1) (by omega) (by omega)]
  exact key
 | false => exact key
def cat (l : List S78) (j : Nat) : S78 := l.getD j z78
theorem rdc (l : List S78) (j : Nat) : rd_T78 l (j : Int) = cat l j := by simp [rd_T78, cat]
theorem rdcL (l : List S70) (j : Nat) : rd_T70 l (j : Int) = l.getD j z70 := by simp [rd_T70]
def cOk (x : S78) : Bool := cardB x.f0 x.f1 x.f2
def cAt (l : List S78) (i : Nat) : Bool := cOk (cat l i) && (decide (i = 0) || Op.bytesLess (cat l (i - 1)).f0.toList (cat l i).f0.toList)
def cgoodB (l : List S78) : Bool := if (List.range l.length).all (cAt l) then decide (l.length ≤ 20) else false
/-- Every text of the cards is short enough. -/
def CSz (l : List S78) : Prop := ∀ i, i < l.length → (cat l i).f0.size ≤ 140737488351232

theorem rpGood_ev (l : List S78) (hl : l.length < 4611686018427387904) (hz : CSz l) : Ev (fun k => spec_rpGood.f k l) (cgoodB l) := by
 unfold spec_rpGood.f cgoodB
 refine Ev.all0 (L := fun k j => spec_rpGood.l0 k l l (l.length : Int) (j : Int)) (P := cAt l) (n := l.length) ?_ ?_ ?_
 ·refine Ev.succ ?_
  simp only [spec_rpGood.l0, Int.lt_irrefl, if_false]
  refine Ev.eq (Ev.now _) ?_
  rw [decide_eq_decide]
  omega
 ·intro j r hj hP h
  refine Ev.succ ?_
  have h1 : ((j : Int) < (l.length : Int)) = True := eq_true (by omega)
  have hsz := hz j hj
  simp only [cAt, Bool.and_eq_true, Bool.or_eq_true, decide_eq_true_eq, cOk] at hP
  simp only [spec_rpGood.l0, h1, if_true, nat_nonneg, rdc, wrap_succ (show j < 4611686018427387904 by omega)]
  refine Ev.bind (Ev.eq (rpOne_ev (cat l j).f0 (cat l j).f1 (cat l j).f2 (by omega)) hP.1) ?_
  by_cases h0 : j = 0
  ·subst h0
   exact h
  ·have h2 : ((j : Int) > 0) = True := eq_true (by omega)
   have h3 : (((j - 1 : Nat) : Int) < (l.length : Int)) = True := eq_true (by omega)
   have h4 := hP.2.resolve_left h0
   simp only [h2, if_true, wrap_pred (show 0 < j by omega) (show j < 4611686018427387904 by omega), nat_nonneg, h3, rdc, h4]
   exact h
 ·intro j hj hP
  refine Ev.succ ?_
  have h1 : ((j : Int) < (l.length : Int)) = True := eq_true (by omega)
  have hsz := hz j hj
  simp only [cAt, cOk] at hP
  simp only [spec_rpGood.l0, h1, if_true, nat_nonneg, rdc, wrap_succ (show j < 4611686018427387904 by omega)]
  refine Ev.bind (rpOne_ev (cat l j).f0 (cat l j).f1 (cat l j).f2 (by omega)) ?_
  rcases Bool.eq_false_or_eq_true (cardB (cat l j).f0 (cat l j).f1 (cat l j).f2) with hk | hk
  ·simp only [hk, if_true]
   simp only [hk, Bool.true_and, Bool.or_eq_false_iff, decide_eq_false_iff_not] at hP
   have h2 : ((j : Int) > 0) = True := eq_true (by omega)
   have h3 : (((j - 1 : Nat) : Int) < (l.length : Int)) = True := eq_true (by omega)
   simp only [h2, if_true, wrap_pred (show 0 < j by omega) (show j < 4611686018427387904 by omega), nat_nonneg, h3, rdc, hP.2]
   exact Ev.now _
  ·simp only [hk]
   exact Ev.now _
theorem areCards_ev (l : List S78) (hl : l.length < 4611686018427387904) (hz : CSz l) : Ev (fun k => impl_AreCards.f k l) (cgoodB l) := by
 unfold impl_AreCards.f cgoodB
 refine Ev.all0 (L := fun k j => impl_AreCards.l0 k l l (l.length : Int) (j : Int)) (P := cAt l) (n := l.length) ?_ ?_ ?_
 ·refine Ev.succ ?_
  simp only [impl_AreCards.l0, Int.lt_irrefl, if_false]
  refine Ev.eq (Ev.now _) ?_
  rw [decide_eq_decide]
  omega
 ·intro j r hj hP h
  refine Ev.succ ?_
  have h1 : ((j : Int) < (l.length : Int)) = True := eq_true (by omega)
  have hsz := hz j hj
  simp only [cAt, Bool.and_eq_true, Bool.or_eq_true, decide_eq_true_eq, cOk] at hP
  simp only [impl_AreCards.l0, h1, if_true, nat_nonneg, rdc, wrap_succ (show j < 4611686018427387904 by omega)]
  refine Ev.bind (Ev.eq (isCard_ev (cat l j).f0 (cat l j).f1 (cat l j).f2 (by omega)) hP.1) ?_
  by_cases h0 : j = 0
  ·subst h0
   exact h
  ·have h2 : ((j : Int) > 0) = True := eq_true (by omega)
   have h3 : (((j - 1 : Nat) : Int) < (l.length : Int)) = True := eq_true (by omega)
   have h4 := hP.2.resolve_left h0
   simp only [h2, if_true, wrap_pred (show 0 < j by omega) (show j < 4611686018427387904 by omega), nat_nonneg, h3, rdc, h4]
   exact h
 ·intro j hj hP
  refine Ev.succ ?_
  have h1 : ((j : Int) < (l.length : Int)) = True := eq_true (by omega)
  have hsz := hz j hj
  simp only [cAt, cOk] at hP
  simp only [impl_AreCards.l0, h1, if_true, nat_nonneg, rdc, wrap_succ (show j < 4611686018427387904 by omega)]
  refine Ev.bind (isCard_ev (cat l j).f0 (cat l j).f1 (cat l j).f2 (by omega)) ?_
  rcases Bool.eq_false_or_eq_true (cardB (cat l j).f0 (cat l j).f1 (cat l j).f2) with hk | hk
  ·simp only [hk, if_true]
   simp only [hk, Bool.true_and, Bool.or_eq_false_iff, decide_eq_false_iff_not] at hP
   have h2 : ((j : Int) > 0) = True := eq_true (by omega)
   have h3 : (((j - 1 : Nat) : Int) < (l.length : Int)) = True := eq_true (by omega)
   simp only [h2, if_true, wrap_pred (show 0 < j by omega) (show j < 4611686018427387904 by omega), nat_nonneg, h3, rdc, hP.2]
   exact Ev.now _
  ·simp only [hk]
   exact Ev.now _

def cconv (x : S70) : S78 := ⟨x.f0, x.f1, x.f2⟩
theorem toCardS_ev (l : List S70) (hl : l.length * 32 ≤ 140737488351232) : Ev (fun k => laws_toCardS.f k l) (l.map cconv) := by
 unfold laws_toCardS.f
 simp only [nat_nonneg, if_true, Int.toNat_natCast, show (l.length ≤ 8796093022208) = True from eq_true (by omega)]
 refine Ev.copy cconv l z70 z78 (fun k s j => laws_toCardS.l0 k l s j) ?_ ?_
 ·intro j s r hj hs h
  refine Ev.succ ?_
  have h1 : ((j : Int) < (l.length : Int)) = True := eq_true (by omega)
  simp only [laws_toCardS.l0, laws_toCard.f, Option.bind_some, h1, if_true, nat_nonneg, hs, Int.toNat_natCast, wrap_succ (show j < 4611686018427387904 by omega), rdcL]
  exact h
 ·intro s hs
  refine Ev.succ ?_
  simp only [laws_toCardS.l0, Int.lt_irrefl, if_false]
  exact Ev.now _
theorem eqCardS_ev (l : List S78) (hl : l.length < 4611686018427387904) : Ev (fun k => laws_eqCardS.f k l l) true := by
 unfold laws_eqCardS.f
 simp only [if_true]
 exact Ev.upto (L := fun k j => laws_eqCardS.l0 k l l (j : Int)) (r := true) (n := l.length)
  (by
   refine Ev.succ ?_
   simp only [laws_eqCardS.l0, Int.lt_irrefl, if_false]
   exact Ev.now _)
  (by
   intro j hj h
   refine Ev.succ ?_
   have h1 : ((j : Int) < (l.length : Int)) = True := eq_true (by omega)
   simp only [laws_eqCardS.l0, laws_eqCard.f, Option.bind_some, h1, if_true, nat_nonneg, wrap_succ (show j < 4611686018427387904 by omega)]
   exact h)
  0 (Nat.zero_le _)
theorem szCardS_ev (l : List S70) (hl : l.length * 32 ≤ 140737488351232) (hz : ∀ y, y ∈ l → B70 y) : ∃ r, (0 ≤ r → l.length ≤ 1048576) ∧ Ev (fun k => laws_szCardS.f k l 1048576) r := by
 unfold laws_szCardS.f
 rw [wrap_id (x := 1048576 - (l.length : Int)) (by omega) (by omega)]
 by_cases h0 : (1048576 : Int) - l.length < 0
 ·refine ⟨-1, fun h => absurd h (by decide), ?_⟩
  simp only [eq_true h0, if_true]
  exact Ev.now _
 ·obtain ⟨r, _, hr⟩ := Ev.sz (L := fun k j a => laws_szCardS.l0 k l a (j : Int)) (n := l.length)
   (by
    intro j a hj ha0 ha1
    have h1 : ((j : Int) < (l.length : Int)) = True := eq_true (by omega)
    have hy := hz (l.getD j z70) (by rw [List.getD_eq_getElem?_getD, List.getElem?_eq_getElem hj]; exact List.getElem_mem hj)
    have hs : (l.getD j z70).f0.size ≤ 140737488351232 := hy.1
    by_cases hc : a - ((l.getD j z70).f0.size : Int) < 0
    ·refine .inr (Ev.succ ?_)
     simp only [laws_szCardS.l0, laws_szCard.f, h1, if_true, nat_nonneg, rdcL, wrap_id (x := a - ((l.getD j z70).f0.size : Int)) (by omega) (by omega), eq_true hc, Option.bind_some]
     exact Ev.now _
    ·refine .inl ⟨a - ((l.getD j z70).f0.size : Int), by omega, by omega, fun r h => Ev.succ ?_⟩
     simp only [laws_szCardS.l0, laws_szCard.f, h1, if_true, nat_nonneg, rdcL, wrap_id (x := a - ((l.getD j z70).f0.size : Int)) (by omega) (by omega), eq_false hc, if_false, Option.bind_some, wrap_succ (show j < 4611686018427387904 by omega)]
     exact h)
   (by
    intro a _ _
    refine Ev.succ ?_
    simp only [laws_szCardS.l0, Int.lt_irrefl, if_false]
    exact Ev.now _)
   0 (Nat.zero_le _) (1048576 - (l.length : Int)) (by omega) (by omega)
  refine ⟨r, fun _ => by omega, ?_⟩
  simp only [eq_false h0, if_false]
  exact hr
theorem csz_map (l : List S70) (hz : ∀ y, y ∈ l → B70 y) : CSz (l.map cconv) := by
 intro i hi
 rw [List.length_map] at hi
 have hy := hz (l.getD i z70) (by rw [List.getD_eq_getElem?_getD, List.getElem?_eq_getElem hi]; exact List.getElem_mem hi)
 unfold cat
 rw [getD_map cconv l i z70 _ hi]
 exact hy.1
def gk (x : S78) : List UInt8 := x.f0.data.toList
theorem cless (x y : S78) : Op.bytesLess x.f0.toList y.f0.toList = decide (gk x < gk y) := by rw [ByteArray.toList_eq, ByteArray.toList_eq, Go.Proofs.bytesLess_eq]; rfl
theorem cat_get (l : List S78) (j : Nat) (h : j < l.length) : cat l j = l[j] := by unfold cat; rw [List.getD_eq_getElem?_getD, List.getElem?_eq_getElem h]; rfl
theorem adj_pairwise {α : Type} {R : α → α → Prop} (tr : ∀ a b c, R a b → R b c → R a c) (l : List α) (h : ∀ i (hi : i + 1 < l.length), R (l[i]'(by omega)) l[i + 1]) : l.Pairwise R := by
 rw [List.pairwise_iff_getElem]
 intro i j hi hj hij
 obtain ⟨d, rfl⟩ : ∃ d, j = i + 1 + d := ⟨j - (i + 1), by omega⟩
 clear hij
 induction d with
 | zero => exact h i hj
 | succ d ih => exact tr _ _ _ (ih (by omega)) (h (i + 1 + d) (by omega))
theorem cgood_iff (l : List S78) : cgoodB l = true ↔ (∀ x, x ∈ l → cOk x = true) ∧ l.Pairwise (fun a b => gk a < gk b) ∧ l.length ≤ 20 := by
 have key : (List.range l.length).all (cAt l) = true ↔ ∀ i, i < l.length → cAt l i = true := by simp
 unfold cgoodB
 by_cases h : (List.range l.length).all (cAt l) = true
 ·rw [if_pos h, decide_eq_true_eq]
  rw [key] at h
  refine ⟨fun h2 => ⟨fun x hx => ?_, adj_pairwise (R := fun a b => gk a < gk b) (fun a b c h1 h2 => List.lt_trans h1 h2) l fun i hi => ?_, h2⟩, fun h2 => h2.2.2⟩
  ·obtain ⟨i, hi, rfl⟩ := List.mem_iff_getElem.1 hx
   have := h i hi
   unfold cAt at this
   rw [Bool.and_eq_true, cat_get l i hi] at this
   exact this.1
  ·have := h (i + 1) hi
   unfold cAt at this
   rw [Bool.and_eq_true, Nat.add_sub_cancel, cat_get l _ hi, cat_get l i (by omega), cless] at this
   simpa using this.2
 ·rw [if_neg h]
  refine ⟨fun h2 => by simp at h2, fun ⟨h1, h2, h3⟩ => absurd (key.2 fun i hi => ?_) h⟩
  unfold cAt
  rw [Bool.and_eq_true, cat_get l i hi]
  refine ⟨h1 _ (List.getElem_mem hi), ?_⟩
  by_cases h0 : i = 0
  ·simp [h0]
  ·rw [cat_get l (i - 1) (by omega), cless, decide_eq_true (List.pairwise_iff_getElem.1 h2 (i - 1) i (by omega) hi (by omega))]
   simp
theorem csz_iff (l : List S78) : CSz l ↔ ∀ x, x ∈ l → x.f0.size ≤ 140737488351232 := by
 refine ⟨fun h x hx => ?_, fun h i hi => by rw [cat_get l i hi]; exact h _ (List.getElem_mem hi)⟩
 obtain ⟨i, hi, rfl⟩ := List.mem_iff_getElem.1 hx
 have := h i hi
 rwa [cat_get l i hi] at this
theorem anyO_ev {α : Type} {p : Nat → α → Option Bool} {f : α → Bool} : ∀ {l : List α}, (∀ x, x ∈ l → Ev (fun k => p k x) (f x)) → Ev (fun k => Go.Proofs.YtcpkobahiciadaaW.GIdx.anyO (p k) l) (l.any f)
 | [], _ => Ev.now _
 | x :: l, h => by
  unfold Go.Proofs.YtcpkobahiciadaaW.GIdx.anyO
  refine Ev.bind (h x (List.mem_cons_self ..)) ?_
  rw [List.any_cons]
  cases f x with
  | true => exact Ev.now _
  | false => simpa using anyO_ev (l := l) fun y hy => h y (List.mem_cons_of_mem _ hy)
theorem ev_map {α β : Type} {g : Nat → Option α} {r : α} (h : Ev g r) (f : α → β) : Ev (fun k => (g k).map f) (f r) := by
 obtain ⟨K, h⟩ := h
 exact ⟨K, fun k hk => by show (g k).map f = some (f r); rw [h k hk]; rfl⟩
theorem any_not {α : Type} (l : List α) (f : α → Bool) : (!l.any fun x => !f x) = l.all f := by
 induction l with
 | nil => rfl
 | cons x l ih => rw [List.any_cons, List.all_cons, ← ih, Bool.not_or, Bool.not_not]
theorem allO_ev {α : Type} {p : Nat → α → Option Bool} {f : α → Bool} {l : List α} (h : ∀ x, x ∈ l → Ev (fun k => p k x) (f x)) : Ev (fun k => Go.Proofs.YtcpkobahiciadaaW.GIdx.allO (p k) l) (l.all f) := by
 unfold Go.Proofs.YtcpkobahiciadaaW.GIdx.allO
 have h1 := anyO_ev (p := fun k x => (p k x).map (!·)) (f := fun x => !f x) (l := l) (fun x hx => ev_map (h x hx) _)
 have h2 := ev_map h1 (fun b => !b)
 rw [any_not] at h2
 exact h2
def aOk (x : S75) : Bool := inB x.f0 0 99999 && glossB x.f1
def an (l : List S75) (j : Nat) : S75 := l.getD j z75
theorem rdan (l : List S75) (j : Nat) : rd_T75 l (j : Int) = an l j := by simp [rd_T75, an]
theorem an_get (l : List S75) (j : Nat) (h : j < l.length) : an l j = l[j] := by unfold an; rw [List.getD_eq_getElem?_getD, List.getElem?_eq_getElem h]; rfl
def ASz (l : List S75) : Prop := ∀ x, x ∈ l → x.f1.size ≤ 140737488351232
def ofG (a : S75) (x : S78) : Bool := decide (x.f0.toList = a.f1.toList)
def nx (x : S78) (a : S75) : ByteArray × Int × Int × Bool := nextR x.f0 x.f1 x.f2 a.f0 a.f2
/-- One answer. -/
def stepR (out : List S78) (a : S75) : List S78 × Bool :=
 match out.findIdx? (ofG a) with
 | none => (out, false)
 | some j => if (nx (cat out j) a).2.2.2 = true then (out.set j ⟨(nx (cat out j) a).1, (nx (cat out j) a).2.1, (nx (cat out j) a).2.2.1⟩, true) else (out, false)
def runR : List S75 → Nat → List S78 → List Int → List S78 × List Int × Bool
 | [], _, out, idle => (out, idle, true)
 | a :: l, i, out, idle => runR l (i + 1) (stepR out a).1 (if (stepR out a).2 = true then idle else idle ++ [(i : Int)])
structure CInv (l : List S78) : Prop where
 ok : ∀ x, x ∈ l → cOk x = true
 up : l.Pairwise fun a b => gk a < gk b
 le : l.length ≤ 20
 sz : ∀ x, x ∈ l → x.f0.size ≤ 140737488351232
theorem nx_facts {x : S78} {a : S75} (hx : cOk x = true) (h : (nx x a).2.2.2 = true) : (nx x a).1 = x.f0 ∧ cOk ⟨(nx x a).1, (nx x a).2.1, (nx x a).2.2.1⟩ = true := by
 obtain ⟨hg, hb, hd⟩ := cardB_parts hx
 have hbox := boxOf_bounds x.f1 a.f2 hb.1 hb.2
 unfold nx nextR at h ⊢
 split at h
 ·cases h
 ·rename_i h1
  split at h
  ·rename_i h2
   rw [if_neg h1, if_pos h2]
   refine ⟨rfl, ?_⟩
   unfold cOk cardB
   simp only [hg, h2, Bool.true_and, Bool.and_true]
   exact decide_eq_true hbox
  ·cases h
theorem gk_of {x y : S78} (h : x.f0 = y.f0) : gk x = gk y := by unfold gk; rw [h]
theorem CInv.set {l : List S78} (h : CInv l) {j : Nat} (hj : j < l.length) {y : S78} (hy : y.f0 = l[j].f0) (ho : cOk y = true) : CInv (l.set j y) := by
 have hm : (l.set j y).map gk = l.map gk := by
  rw [List.map_set, gk_of hy]
  refine List.ext_getElem (by simp) fun i h1 h2 => ?_
  rw [List.getElem_set]
  split
  ·rename_i e; subst e; simp
  ·rfl
 refine ⟨fun x hx => ?_, ?_, by rw [List.length_set]; exact h.le, fun x hx => ?_⟩
 ·rcases List.mem_or_eq_of_mem_set hx with h1 | h1
  ·exact h.ok x h1
  ·rw [h1]; exact ho
 ·have h1 := (List.pairwise_map (f := gk) (l := l.set j y) (R := fun a b : List UInt8 => a < b)).1
  exact h1 (by rw [hm]; exact List.pairwise_map.2 h.up)
 ·rcases List.mem_or_eq_of_mem_set hx with h1 | h1
  ·exact h.sz x h1
  ·rw [h1, hy]; exact h.sz _ (List.getElem_mem hj)
theorem ofG_one {l : List S78} (h : CInv l) {a : S75} {i j : Nat} (hi : i < l.length) (hj : j < l.length) (e1 : ofG a l[i] = true) (e2 : ofG a l[j] = true) : i = j := by
 have h1 : l[i].f0.toList = l[j].f0.toList := (of_decide_eq_true e1).trans (of_decide_eq_true e2).symm
 rw [ByteArray.toList_eq, ByteArray.toList_eq] at h1
 have hp := List.pairwise_iff_getElem.1 h.up
 rcases Nat.lt_trichotomy i j with h2 | h2 | h2
 ·have := hp i j hi hj h2
  unfold gk at this
  rw [h1] at this
  exact (List.lt_irrefl _ this).elim
 ·exact h2
 ·have := hp j i hj hi h2
  unfold gk at this
  rw [h1] at this
  exact (List.lt_irrefl _ this).elim
theorem find_cases {l : List S78} (h : CInv l) (a : S75) : (stepR l a = (l, false) ∧ l.findIdx? (ofG a) = none ∧ ∀ i (hi : i < l.length), ofG a l[i] = false) ∨ ∃ j, ∃ hj : j < l.length, l.findIdx? (ofG a) = some j ∧ ofG a l[j] = true ∧ (∀ i (hi : i < l.length), i ≠ j → ofG a l[i] = false) ∧ stepR l a = (if (nx l[j] a).2.2.2 = true then (l.set j ⟨(nx l[j] a).1, (nx l[j] a).2.1, (nx l[j] a).2.2.1⟩, true) else (l, false)) := by
 cases hq : l.findIdx? (ofG a) with
 | none =>
  left
  refine ⟨by unfold stepR; rw [hq], rfl, fun i hi => ?_⟩
  exact List.findIdx?_eq_none_iff.1 hq _ (List.getElem_mem hi)
 | some j =>
  right
  obtain ⟨hj, hp, _⟩ := List.findIdx?_eq_some_iff_getElem.1 hq
  refine ⟨j, hj, rfl, hp, fun i hi hne => ?_, by unfold stepR; rw [hq]; simp only [cat_get l j hj]⟩
  cases hb : ofG a l[i] with
  | false => rfl
  | true => exact (hne (ofG_one h hi hj hb hp)).elim
theorem step_inv {l : List S78} (h : CInv l) (a : S75) : CInv (stepR l a).1 ∧ (stepR l a).1.length = l.length := by
 rcases find_cases h a with ⟨e, _⟩ | ⟨j, hj, _, _, _, e⟩
 ·rw [e]; exact ⟨h, rfl⟩
 ·rw [e]
  split
  ·rename_i h1
   obtain ⟨f1, f2⟩ := nx_facts (h.ok _ (List.getElem_mem hj)) h1
   exact ⟨h.set hj f1 f2, by simp⟩
  ·exact ⟨h, rfl⟩
theorem runR_facts : ∀ (l : List S75) (i : Nat) (out : List S78) (idle : List Int), CInv out → CInv (runR l i out idle).1 ∧ (runR l i out idle).1.length = out.length ∧ (runR l i out idle).2.1.length ≤ idle.length + l.length ∧ (runR l i out idle).2.2 = true
 | [], _, out, idle, h => ⟨h, rfl, by simp [runR], rfl⟩
 | a :: l, i, out, idle, h => by
  obtain ⟨h1, h2⟩ := step_inv h a
  obtain ⟨g1, g2, g3, g4⟩ := runR_facts l (i + 1) (stepR out a).1 (if (stepR out a).2 = true then idle else idle ++ [(i : Int)]) h1
  refine ⟨g1, g2.trans h2, ?_, g4⟩
  unfold runR
  refine Nat.le_trans g3 ?_
  split <;> simp <;> omega
/-! the program -/
theorem cardOf_eq (l : List S78) (a : S75) : impl_cardOf.f l a.f1 = some (match l.findIdx? (ofG a) with | some j => (j : Int) | none => -1) := by
 unfold impl_cardOf.f slices_IndexFunc_impl_Card.f
 show ((Go.Proofs.YtcpkobahiciadaaW.GIdx.idxO (fun x => some (ofG a x)) l 0).bind fun t102 => some t102) = _
 rw [Go.Proofs.YtcpkobahiciadaaW.GIdx.idxO_some (f := ofG a) (fun x _ => rfl)]
 simp only [Option.bind_some, Nat.zero_add]
 cases l.findIdx? (ofG a) <;> rfl
theorem implRun_l0 (asw : List S75) (hv : ∀ x, x ∈ asw → aOk x = true) (hl : asw.length ≤ 40) : ∀ d i (out : List S78) (idle : List Int), i + d = asw.length → CInv out → idle.length ≤ i →
  Ev (fun k => impl_RunAnswers.l0 k out idle asw (asw.length : Int) (i : Int)) (runR (asw.drop i) i out idle) := by
 intro d
 induction d with
 | zero =>
  intro i out idle hi h hid
  have e : asw.drop i = [] := List.drop_of_length_le (by omega)
  refine Ev.succ ?_
  simp only [impl_RunAnswers.l0, show ((i : Int) < (asw.length : Int)) = False from eq_false (by omega), if_false, e, runR]
  exact Ev.now _
 | succ d ih =>
  intro i out idle hi h hid
  have hlt : i < asw.length := by omega
  have g1 : ((i : Int) < (asw.length : Int)) = True := eq_true (by omega)
  have e4 : wrap64 ((i : Int) + 1) = ((i + 1 : Nat) : Int) := wrap_succ (by omega)
  have gi : (idle.length < 17592186044416) = True := eq_true (by omega)
  rw [List.drop_eq_getElem_cons hlt]
  unfold runR
  have hday : 0 ≤ asw[i].f0 ∧ asw[i].f0 ≤ 99999 := by
   have := hv _ (List.getElem_mem hlt)
   unfold aOk at this
   rw [Bool.and_eq_true] at this
   exact of_decide_eq_true this.1
  refine Ev.succ ?_
  simp only [impl_RunAnswers.l0, g1, if_true, nat_nonneg, rdan, an_get asw i hlt, cardOf_eq, e4, gi]
  rcases find_cases h asw[i] with ⟨e, eq, _⟩ | ⟨j, hj, eq, hof, _, e⟩
  ·rw [e, eq]
   simp only [Option.bind_some, show ((-1 : Int) < 0) = True from eq_true (by decide), if_true, Bool.false_eq_true, if_false]
   exact ih (i + 1) out _ (by omega) h (by simp; omega)
  ·rw [e, eq]
   have hok := h.ok _ (List.getElem_mem hj)
   have ha := answered_ev out[j].f0 out[j].f1 out[j].f2 asw[i].f0 asw[i].f2 (by have := h.sz _ (List.getElem_mem hj); omega) hok hday
   simp only [Option.bind_some, show ((j : Int) < 0) = False from eq_false (by omega), if_false, nat_nonneg, if_true, show ((j : Int) < (out.length : Int)) = True from eq_true (by omega), rdc, cat_get out j hj, Int.toNat_natCast]
   refine Ev.bind ha ?_
   change Ev (fun k => if (nx out[j] asw[i]).2.2.2 = true then _ else _) _
   cases hq : (nx out[j] asw[i]).2.2.2 with
   | true =>
    obtain ⟨f1, f2⟩ := nx_facts hok hq
    simp only [if_true]
    exact ih (i + 1) _ _ (by omega) (h.set hj f1 f2) (by omega)
   | false =>
    simp only [Bool.false_eq_true, if_false]
    exact ih (i + 1) _ _ (by omega) h (by simp; omega)
/-! the reference -/
theorem specRun_l1 (out : List S78) (a : S75) (idle : List Int) (x9 : Int) (ch : Bool) (x27 : List S75) (x28 x29 : Int) (h : CInv out) (hday : 0 ≤ a.f0 ∧ a.f0 ≤ 99999) (r : List S78 × List Int × Bool) (e : Nat) (he : e ≤ out.length)
  (hr : Ev (fun k => spec_RunAnswers.l1 k out idle x9 ch x27 x28 x29 (out.length : Int) (e : Int) a.f0 a.f1 a.f2) r) : ∀ d m, m + d = e → (∀ i (hi : i < out.length), m ≤ i → i < e → ofG a out[i] = false) → Ev (fun k => spec_RunAnswers.l1 k out idle x9 ch x27 x28 x29 (out.length : Int) (m : Int) a.f0 a.f1 a.f2) r := by
 intro d
 induction d with
 | zero =>
  intro m hm _
  obtain rfl : m = e := by omega
  exact hr
 | succ d ih =>
  intro m hm hno
  have hlt : m < out.length := by omega
  have g1 : ((m : Int) < (out.length : Int)) = True := eq_true (by omega)
  have e4 : wrap64 ((m : Int) + 1) = ((m + 1 : Nat) : Int) := wrap_succ (by have := h.le; omega)
  have hn : (out[m].f0.toList = a.f1.toList) = False := eq_false (of_decide_eq_false (hno m hlt (Nat.le_refl _) (by omega)))
  refine Ev.succ ?_
  simp only [spec_RunAnswers.l1, g1, if_true, nat_nonneg, rdc, cat_get out m hlt, rpNext_eq _ _ _ _ _ (h.ok _ (List.getElem_mem hlt)) hday, Option.bind_some, e4, hn, if_false, ite_self]
  exact ih (m + 1) (by omega) (fun i hi h1 h2 => hno i hi (by omega) h2)
/-- What comes behind the cards' loop. -/
def behindR (asw : List S75) (i : Nat) (idle : List Int) (s : List S78 × Bool) (k : Nat) : Option (List S78 × List Int × Bool) :=
 if s.2 = true then spec_RunAnswers.l0 k s.1 idle asw (asw.length : Int) (wrap64 ((i : Int) + 1)) else (if idle.length < 17592186044416 then spec_RunAnswers.l0 k s.1 (idle ++ [(i : Int)]) asw (asw.length : Int) (wrap64 ((i : Int) + 1)) else none)
theorem specRun_step (out : List S78) (a : S75) (idle : List Int) (asw : List S75) (i : Nat) (h : CInv out) (hday : 0 ≤ a.f0 ∧ a.f0 ≤ 99999) (r : List S78 × List Int × Bool) (hr : Ev (behindR asw i idle (stepR out a)) r) :
  Ev (fun k => spec_RunAnswers.l1 k out idle (i : Int) false asw (asw.length : Int) (i : Int) (out.length : Int) 0 a.f0 a.f1 a.f2) r := by
 have fin : ∀ (o : List S78) (ch : Bool), Ev (behindR asw i idle (o, ch)) r → Ev (fun k => spec_RunAnswers.l1 k o idle (i : Int) ch asw (asw.length : Int) (i : Int) (o.length : Int) (o.length : Int) a.f0 a.f1 a.f2) r := by
  intro o ch hq
  refine Ev.succ ?_
  simp only [spec_RunAnswers.l1, Int.lt_irrefl, if_false]
  exact hq
 rcases find_cases h a with ⟨e, _, hno⟩ | ⟨j, hj, _, hof, hno, e⟩
 ·rw [e] at hr
  exact specRun_l1 out a idle _ false asw _ _ h hday r out.length (Nat.le_refl _) (fin out false hr) out.length 0 (by omega) (fun q hq _ _ => hno q hq)
 ·rw [e] at hr
  refine specRun_l1 out a idle _ false asw _ _ h hday r j (by omega) ?_ j 0 (by omega) (fun q hq _ h2 => hno q hq (by omega))
  have g1 : ((j : Int) < (out.length : Int)) = True := eq_true (by omega)
  have e4 : wrap64 ((j : Int) + 1) = ((j + 1 : Nat) : Int) := wrap_succ (by have := h.le; omega)
  have hn : (out[j].f0.toList = a.f1.toList) = True := eq_true (of_decide_eq_true hof)
  have hok := h.ok _ (List.getElem_mem hj)
  refine Ev.succ ?_
  simp only [spec_RunAnswers.l1, g1, if_true, nat_nonneg, rdc, cat_get out j hj, rpNext_eq _ _ _ _ _ hok hday, Option.bind_some, e4, hn, Int.toNat_natCast]
  change Ev (fun k => if (nx out[j] a).2.2.2 = true then spec_RunAnswers.l1 k (out.set j ⟨(nx out[j] a).1, (nx out[j] a).2.1, (nx out[j] a).2.2.1⟩) _ _ _ _ _ _ _ _ _ _ _ else _) _
  cases hq : (nx out[j] a).2.2.2 with
  | true =>
   rw [hq] at hr
   simp only [if_true] at hr ⊢
   obtain ⟨f1, f2⟩ := nx_facts hok hq
   have h' := h.set hj f1 f2
   have hl : (out.set j (⟨(nx out[j] a).1, (nx out[j] a).2.1, (nx out[j] a).2.2.1⟩ : S78)).length = out.length := by simp
   have hf := fin _ true hr
   rw [← hl]
   refine specRun_l1 _ a idle _ true asw _ _ h' hday r _ (Nat.le_refl _) hf (out.length - (j + 1)) (j + 1) (by rw [hl]; omega) (fun q hq2 h1 h2 => ?_)
   rw [List.getElem_set, if_neg (by omega)]
   exact hno q (by rw [hl] at hq2; exact hq2) (by omega)
  | false =>
   rw [hq] at hr
   simp only [Bool.false_eq_true, if_false] at hr ⊢
   exact specRun_l1 out a idle _ false asw _ _ h hday r out.length (Nat.le_refl _) (fin out false hr) (out.length - (j + 1)) (j + 1) (by omega) (fun q hq2 h1 _ => hno q hq2 (by omega))
theorem specRun_l0 (asw : List S75) (hsz : ASz asw) (hl : asw.length ≤ 40) : ∀ d i (out : List S78) (idle : List Int), i + d = asw.length → CInv out → idle.length ≤ i →
  Ev (fun k => spec_RunAnswers.l0 k out idle asw (asw.length : Int) (i : Int)) (if (asw.drop i).all aOk = true then runR (asw.drop i) i out idle else ([], [], false)) := by
 intro d
 induction d with
 | zero =>
  intro i out idle hi h hid
  have e : asw.drop i = [] := List.drop_of_length_le (by omega)
  refine Ev.succ ?_
  simp only [spec_RunAnswers.l0, show ((i : Int) < (asw.length : Int)) = False from eq_false (by omega), if_false, e, runR, List.all_nil, if_true]
  exact Ev.now _
 | succ d ih =>
  intro i out idle hi h hid
  have hlt : i < asw.length := by omega
  have g1 : ((i : Int) < (asw.length : Int)) = True := eq_true (by omega)
  have e4 : wrap64 ((i : Int) + 1) = ((i + 1 : Nat) : Int) := wrap_succ (by omega)
  have gi : (idle.length < 17592186044416) = True := eq_true (by omega)
  rw [List.drop_eq_getElem_cons hlt, List.all_cons]
  have hf := fsWord_ev asw[i].f1 (by have := hsz _ (List.getElem_mem hlt); omega)
  have bad : Ev (fun k => spec_RunAnswers.j2 k out idle (i : Int) asw (asw.length : Int) (i : Int) true asw[i].f0 asw[i].f1 asw[i].f2) ([], [], false) := by
   refine Ev.succ ?_
   simp only [spec_RunAnswers.j2, if_true]
   exact Ev.now _
  refine Ev.succ ?_
  simp only [spec_RunAnswers.l0, g1, if_true, nat_nonneg, rdan, an_get asw i hlt, rpDay_eq, Option.bind_some]
  refine Ev.bind hf ?_
  unfold aOk
  cases hg : glossB asw[i].f1 with
  | false =>
   simp only [Bool.false_eq_true, if_false, Bool.and_false, Bool.false_and]
   exact bad
  | true =>
   cases hd : inB asw[i].f0 0 99999 with
   | false =>
    simp only [Bool.false_eq_true, if_false, if_true, Bool.false_and, Bool.not_false]
    exact bad
   | true =>
    simp only [if_true, Bool.true_and, Bool.not_true]
    refine Ev.succ ?_
    simp only [spec_RunAnswers.j2, Bool.false_eq_true, if_false]
    refine specRun_step out asw[i] idle asw i h (of_decide_eq_true hd) _ ?_
    obtain ⟨h1, h2⟩ := step_inv h asw[i]
    unfold runR behindR
    simp only [e4, gi, if_true]
    change Ev _ (if (List.drop (i + 1) asw).all aOk = true then _ else _)
    cases hs : (stepR out asw[i]).2 with
    | true =>
     simp only [if_true]
     exact ih (i + 1) _ _ (by omega) h1 (by omega)
    | false =>
     simp only [Bool.false_eq_true, if_false]
     exact ih (i + 1) _ _ (by omega) h1 (by simp; omega)
/-! both -/
def runAll (l : List S78) (asw : List S75) : List S78 × List Int × Bool := if cgoodB l && (decide (asw.length ≤ 40) && asw.all aOk) then runR asw 0 l [] else ([], [], false)
theorem cinv_of {l : List S78} (h : cgoodB l = true) (hz : CSz l) : CInv l := by
 obtain ⟨h1, h2, h3⟩ := (cgood_iff l).1 h
 exact ⟨h1, h2, h3, (csz_iff l).1 hz⟩
theorem implRun_ev (l : List S78) (asw : List S75) (hl : l.length ≤ 1048576) (hz : CSz l) (hs : ASz asw) (ha : asw.length ≤ 1048576) : Ev (fun k => impl_RunAnswers.f k l asw) (runAll l asw) := by
 have bad : Ev (fun k => impl_RunAnswers.j0 k l asw true) ([], [], false) := by
  refine Ev.succ ?_
  simp only [impl_RunAnswers.j0, if_true]
  exact Ev.now _
 unfold impl_RunAnswers.f runAll
 refine Ev.bind (areCards_ev l (by omega) hz) ?_
 cases hg : cgoodB l with
 | false =>
  simp only [Bool.false_eq_true, if_false, Bool.false_and]
  exact bad
 | true =>
  simp only [if_true, Bool.true_and]
  by_cases h40 : (asw.length : Int) > 40
  ·simp only [eq_true h40, if_true, show decide (asw.length ≤ 40) = false from decide_eq_false (by omega), Bool.false_and, Bool.false_eq_true, if_false]
   exact bad
  ·simp only [eq_false h40, if_false, show decide (asw.length ≤ 40) = true from decide_eq_true (by omega), Bool.true_and]
   have hall : Ev (fun k => impl_allOf_impl_Answer.f k asw) (asw.all aOk) := by
    unfold impl_allOf_impl_Answer.f
    refine allO_ev fun x hx => ?_
    unfold impl_RunAnswers_1.f aOk
    simp only [isFrame_eq, Option.bind_some]
    cases inB x.f0 0 99999 with
    | false => simp only [Bool.false_eq_true, if_false, Bool.false_and]; exact Ev.now _
    | true =>
     simp only [if_true, Bool.true_and]
     exact Ev.bind (isGloss_ev x.f1 (by have := hs x hx; omega)) (Ev.now _)
   refine Ev.bind hall ?_
   cases hq : asw.all aOk with
   | false =>
    simp only [Bool.not_false, Bool.false_eq_true, if_false]
    exact bad
   | true =>
    refine Ev.succ ?_
    have g1 : (([] : List S78).length + l.length < 4398046511104) = True := eq_true (by simp; omega)
    simp only [impl_RunAnswers.j0, Bool.not_true, Bool.false_eq_true, if_false, if_true, slices_Clone_impl_Card.f, Option.bind_some, g1, List.nil_append]
    have := implRun_l0 asw (fun x hx => List.all_eq_true.1 hq x hx) (by omega) asw.length 0 l [] (by omega) (cinv_of hg hz) (by simp)
    rwa [List.drop_zero] at this
theorem specRun_ev (l : List S78) (asw : List S75) (hl : l.length ≤ 1048576) (hz : CSz l) (hs : ASz asw) (ha : asw.length ≤ 1048576) : Ev (fun k => spec_RunAnswers.f k l asw) (runAll l asw) := by
 have bad : Ev (fun k => spec_RunAnswers.j0 k l asw true) ([], [], false) := by
  refine Ev.succ ?_
  simp only [spec_RunAnswers.j0, if_true]
  exact Ev.now _
 unfold spec_RunAnswers.f runAll
 refine Ev.bind (rpGood_ev l (by omega) hz) ?_
 cases hg : cgoodB l with
 | false =>
  simp only [Bool.false_eq_true, if_false, Bool.false_and]
  exact bad
 | true =>
  simp only [if_true, Bool.true_and]
  by_cases h40 : (asw.length : Int) > 40
  ·simp only [show decide ((asw.length : Int) > 40) = true from decide_eq_true h40, show decide (asw.length ≤ 40) = false from decide_eq_false (by omega), Bool.false_and, Bool.false_eq_true, if_false]
   exact bad
  ·simp only [show decide ((asw.length : Int) > 40) = false from decide_eq_false h40, show decide (asw.length ≤ 40) = true from decide_eq_true (by omega), Bool.true_and]
   refine Ev.succ ?_
   have g1 : (([] : List S78).length + l.length < 4398046511104) = True := eq_true (by simp; omega)
   simp only [spec_RunAnswers.j0, Bool.false_eq_true, if_false, Option.bind_some, g1, if_true, List.nil_append]
   have := specRun_l0 asw hs (by omega) asw.length 0 l [] (by omega) (cinv_of hg hz) (by simp)
   rwa [List.drop_zero] at this
theorem runAll_len (l : List S78) (asw : List S75) (hz : CSz l) : (runAll l asw).1.length ≤ 20 ∧ (runAll l asw).2.1.length ≤ 40 := by
 unfold runAll
 split
 ·rename_i h
  rw [Bool.and_eq_true, Bool.and_eq_true, decide_eq_true_eq] at h
  have hi := cinv_of h.1 hz
  obtain ⟨h1, h2, h3, _⟩ := runR_facts asw 0 l [] hi
  have := hi.le
  simp at h3
  omega
 ·simp
theorem strOfNums_one (x : Int) : (strOfNums [x]).size = 1 := by simp [strOfNums, ByteArray.size]
theorem markText_l0 : ∀ (n : Nat) (a : Int) (s : ByteArray), 0 ≤ a → a.toNat ≤ n → a ≤ 1000000000 → s.size + n ≤ 2000000000 → ∃ r, Ev (fun k => laws_markText.l0 k a s) r := by
 intro n
 induction n with
 | zero =>
  intro a s h0 h1 h2 h3
  refine ⟨(⟨#[109]⟩ : ByteArray) ++ s, Ev.succ ?_⟩
  have h4 : (a > 0) = False := eq_false (by omega)
  have h5 : (1 + s.size ≤ 9223372036854775807) = True := eq_true (by omega)
  simp only [laws_markText.l0, h4, h5, if_true, if_false]
  exact Ev.now _
 | succ n ih =>
  intro a s h0 h1 h2 h3
  by_cases h : a > 0
  ·have hd := Int.tdiv_eq_ediv_of_nonneg (b := 10) h0
   have h7 : Int.tdiv a 10 < a ∧ 0 ≤ Int.tdiv a 10 := by rw [hd]; omega
   have hx : (strOfNums [(wrap64 (48 + Int.tmod a 10)) % 256]).size = 1 := strOfNums_one _
   have h5 : ((strOfNums [(wrap64 (48 + Int.tmod a 10)) % 256]).size + s.size ≤ 9223372036854775807) = True := eq_true (by omega)
   obtain ⟨r, hr⟩ := ih (Int.tdiv a 10) (strOfNums [(wrap64 (48 + Int.tmod a 10)) % 256] ++ s) h7.2 (by omega) (by omega) (by rw [ByteArray.size_append]; omega)
   refine ⟨r, Ev.succ ?_⟩
   simp only [laws_markText.l0, eq_true h, h5, if_true, Option.bind_some, wrap_id (x := Int.tdiv a 10) (by omega) (by omega)]
   exact hr
  ·refine ⟨(⟨#[109]⟩ : ByteArray) ++ s, Ev.succ ?_⟩
   have h5 : (1 + s.size ≤ 9223372036854775807) = True := eq_true (by omega)
   simp only [laws_markText.l0, eq_false h, h5, if_true, if_false]
   exact Ev.now _
theorem markText_some (a : Int) (ha : a ≤ 1000000000) : ∃ r, Ev (fun k => laws_markText.f k a) r := by
 unfold laws_markText.f
 by_cases h : a ≤ 0
 ·simp only [eq_true h, if_true]
  exact ⟨_, Ev.now _⟩
 ·simp only [eq_false h, if_false]
  exact markText_l0 a.toNat a _ (by omega) (Nat.le_refl _) ha (by simp [ByteArray.size]; omega)
/-- The mark's text. -/
noncomputable def mtext (a : Int) : ByteArray := @dite _ (∃ r, Ev (fun k => laws_markText.f k a) r) (Classical.propDecidable _) (fun h => Classical.choose h) (fun _ => ByteArray.empty)
theorem markText_ev (a : Int) (ha : a ≤ 1000000000) : Ev (fun k => laws_markText.f k a) (mtext a) := by
 unfold mtext
 rw [dif_pos (markText_some a ha)]
 exact Classical.choose_spec (markText_some a ha)
theorem rdaL (l : List S73) (j : Nat) : rd_T73 l (j : Int) = l.getD j z73 := by simp [rd_T73]
theorem szCardA_ev (l : List S70) (hl : l.length * 32 ≤ 140737488351232) (hz : ∀ y, y ∈ l → B70 y) : ∃ r, (0 ≤ r → l.length ≤ 1048576) ∧ r ≤ 1048576 ∧ Ev (fun k => laws_szCardS.f k l 1048576) r := by
 obtain ⟨r, h1, h2⟩ := szCardS_ev l hl hz
 by_cases h : r ≤ 1048576
 ·exact ⟨r, h1, h, h2⟩
 ·exfalso
  unfold laws_szCardS.f at h2
  rw [wrap_id (x := 1048576 - (l.length : Int)) (by omega) (by omega)] at h2
  by_cases h0 : (1048576 : Int) - l.length < 0
  ·simp only [eq_true h0, if_true] at h2
   have := Ev.unique h2 (Ev.now (-1))
   omega
  ·simp only [eq_false h0, if_false] at h2
   obtain ⟨r', h3, hr⟩ := Ev.sz (L := fun k j a => laws_szCardS.l0 k l a (j : Int)) (n := l.length)
    (by
     intro j a hj ha0 ha1
     have h1 : ((j : Int) < (l.length : Int)) = True := eq_true (by omega)
     have hy := hz (l.getD j z70) (by rw [List.getD_eq_getElem?_getD, List.getElem?_eq_getElem hj]; exact List.getElem_mem hj)
     have hs : (l.getD j z70).f0.size ≤ 140737488351232 := hy.1
     by_cases hc : a - ((l.getD j z70).f0.size : Int) < 0
     ·refine .inr (Ev.succ ?_)
      simp only [laws_szCardS.l0, laws_szCard.f, h1, if_true, nat_nonneg, rdcL, wrap_id (x := a - ((l.getD j z70).f0.size : Int)) (by omega) (by omega), eq_true hc, Option.bind_some]
      exact Ev.now _
     ·refine .inl ⟨a - ((l.getD j z70).f0.size : Int), by omega, by omega, fun r h => Ev.succ ?_⟩
      simp only [laws_szCardS.l0, laws_szCard.f, h1, if_true, nat_nonneg, rdcL, wrap_id (x := a - ((l.getD j z70).f0.size : Int)) (by omega) (by omega), eq_false hc, if_false, Option.bind_some, wrap_succ (show j < 4611686018427387904 by omega)]
      exact h)
    (by
     intro a _ _
     refine Ev.succ ?_
     simp only [laws_szCardS.l0, Int.lt_irrefl, if_false]
     exact Ev.now _)
    0 (Nat.zero_le _) (1048576 - (l.length : Int)) (by omega) (by omega)
   have := Ev.unique h2 hr
   omega
def aconv (x : S73) : S75 := ⟨x.f0, x.f1, x.f2⟩
theorem toAnswerS_ev (l : List S73) (hl : l.length * 32 ≤ 140737488351232) : Ev (fun k => laws_toAnswerS.f k l) (l.map aconv) := by
 unfold laws_toAnswerS.f
 simp only [nat_nonneg, if_true, Int.toNat_natCast, show (l.length ≤ 8796093022208) = True from eq_true (by omega)]
 refine Ev.copy aconv l z73 z75 (fun k s j => laws_toAnswerS.l0 k l s j) ?_ ?_
 ·intro j s r hj hs h
  refine Ev.succ ?_
  have h1 : ((j : Int) < (l.length : Int)) = True := eq_true (by omega)
  simp only [laws_toAnswerS.l0, laws_toAnswer.f, Option.bind_some, h1, if_true, nat_nonneg, hs, Int.toNat_natCast, wrap_succ (show j < 4611686018427387904 by omega), rdaL]
  exact h
 ·intro s hs
  refine Ev.succ ?_
  simp only [laws_toAnswerS.l0, Int.lt_irrefl, if_false]
  exact Ev.now _
theorem eqAnswerS_ev (l : List S75) (hl : l.length < 4611686018427387904) : Ev (fun k => laws_eqAnswerS.f k l l) true := by
 unfold laws_eqAnswerS.f
 simp only [if_true]
 exact Ev.upto (L := fun k j => laws_eqAnswerS.l0 k l l (j : Int)) (r := true) (n := l.length)
  (by
   refine Ev.succ ?_
   simp only [laws_eqAnswerS.l0, Int.lt_irrefl, if_false]
   exact Ev.now _)
  (by
   intro j hj h
   refine Ev.succ ?_
   have h1 : ((j : Int) < (l.length : Int)) = True := eq_true (by omega)
   simp only [laws_eqAnswerS.l0, laws_eqAnswer.f, Option.bind_some, h1, if_true, nat_nonneg, bne_self_eq_false, Bool.false_eq_true, if_false, wrap_succ (show j < 4611686018427387904 by omega)]
   exact h)
  0 (Nat.zero_le _)
theorem szAnswerS_ev (l : List S73) (A : Int) (hA0 : 0 ≤ A) (hA1 : A ≤ 1048576) (hl : l.length * 32 ≤ 140737488351232) (hz : ∀ y, y ∈ l → B73 y) : ∃ r, (0 ≤ r → l.length ≤ 1048576) ∧ Ev (fun k => laws_szAnswerS.f k l A) r := by
 unfold laws_szAnswerS.f
 rw [wrap_id (x := A - (l.length : Int)) (by omega) (by omega)]
 by_cases h0 : A - (l.length : Int) < 0
 ·refine ⟨-1, fun h => absurd h (by decide), ?_⟩
  simp only [eq_true h0, if_true]
  exact Ev.now _
 ·obtain ⟨r, _, hr⟩ := Ev.sz (L := fun k j a => laws_szAnswerS.l0 k l a (j : Int)) (n := l.length)
   (by
    intro j a hj ha0 ha1
    have h1 : ((j : Int) < (l.length : Int)) = True := eq_true (by omega)
    have hy := hz (l.getD j z73) (by rw [List.getD_eq_getElem?_getD, List.getElem?_eq_getElem hj]; exact List.getElem_mem hj)
    have hs : (l.getD j z73).f1.size ≤ 140737488351232 := hy.2.1
    by_cases hc : a - ((l.getD j z73).f1.size : Int) < 0
    ·refine .inr (Ev.succ ?_)
     simp only [laws_szAnswerS.l0, laws_szAnswer.f, h1, if_true, nat_nonneg, rdaL, wrap_id (x := a - ((l.getD j z73).f1.size : Int)) (by omega) (by omega), eq_true hc, Option.bind_some]
     exact Ev.now _
    ·refine .inl ⟨a - ((l.getD j z73).f1.size : Int), by omega, by omega, fun r h => Ev.succ ?_⟩
     simp only [laws_szAnswerS.l0, laws_szAnswer.f, h1, if_true, nat_nonneg, rdaL, wrap_id (x := a - ((l.getD j z73).f1.size : Int)) (by omega) (by omega), eq_false hc, if_false, Option.bind_some, wrap_succ (show j < 4611686018427387904 by omega)]
     exact h)
   (by
    intro a _ _
    refine Ev.succ ?_
    simp only [laws_szAnswerS.l0, Int.lt_irrefl, if_false]
    exact Ev.now _)
   0 (Nat.zero_le _) (A - (l.length : Int)) (by omega) (by omega)
  refine ⟨r, fun _ => by omega, ?_⟩
  simp only [eq_false h0, if_false]
  exact hr
theorem asz_map (l : List S73) (hz : ∀ y, y ∈ l → B73 y) : ASz (l.map aconv) := by
 intro x hx
 obtain ⟨y, hy, rfl⟩ := List.mem_map.1 hx
 exact (hz y hy).2.1
noncomputable def amark (a : Int) (_ : S75) : S75 := ⟨a, mtext (a + 1), (Int.tmod (a + 1 + 1) 3) == 0⟩
theorem markAnswerS_ev (l : List S75) (a : Int) (h0 : 0 ≤ a) (ha : a + 3 * l.length ≤ 1000000000) : Ev (fun k => laws_markAnswerS.f k l a) (a + 3 * l.length, markAll amark (fun _ => 3) a l) := by
 unfold laws_markAnswerS.f
 have e : a + 3 * (l.length : Int) = markEnd (fun _ => 3) a l := by rw [markEnd_const]; omega
 rw [e]
 refine Ev.mark amark (fun _ => 3) z75 1000000000 l.length (fun k s a j => laws_markAnswerS.l0 k s a j) ?_ ?_ l a rfl h0 (by rw [markEnd_const]; omega)
 ·intro s j a r hj hs h0 h1 h
  refine Ev.succ ?_
  have h2 : ((j : Int) < (l.length : Int)) = True := eq_true (by omega)
  have h1 : a + 3 ≤ 1000000000 := h1
  have hg : ∀ v, rd_T75 (s.set j v) (j : Int) = v := by
   intro v
   rw [rdan, an, List.getD_eq_getElem?_getD, List.getElem?_set_self (by omega)]
   rfl
  simp only [laws_markAnswerS.l0, hs, h2, if_true, nat_nonneg, Int.toNat_natCast, wrap_succ (show j < 4611686018427387904 by omega), wrap_id (x := a + 1) (by omega) (by omega), wrap_id (x := a + 1 + 1) (by omega) (by omega), wrap_id (x := a + 1 + 1 + 1) (by omega) (by omega), Option.bind_some, hg, List.set_set]
  refine Ev.bind (markText_ev (a + 1) (by omega)) ?_
  have e3 : a + 1 + 1 + 1 = a + (3 : Nat) := by omega
  rw [e3]
  exact h
 ·intro s a hs
  refine Ev.succ ?_
  simp only [laws_markAnswerS.l0, hs, Int.lt_irrefl, if_false]
  exact Ev.now _
noncomputable def cmark (a : Int) (_ : S78) : S78 := ⟨mtext a, a + 1, a + 1 + 1⟩
noncomputable def markCards (a : Int) (l : List S78) : List S78 := markAll cmark (fun _ => 3) a l
theorem markCardS_ev (l : List S78) (a : Int) (h0 : 0 ≤ a) (ha : a + 3 * l.length ≤ 1000000000) : Ev (fun k => laws_markCardS.f k l a) (a + 3 * l.length, markCards a l) := by
 unfold laws_markCardS.f markCards
 have e : a + 3 * (l.length : Int) = markEnd (fun _ => 3) a l := by rw [markEnd_const]; omega
 rw [e]
 refine Ev.mark cmark (fun _ => 3) z78 1000000000 l.length (fun k s a j => laws_markCardS.l0 k s a j) ?_ ?_ l a rfl h0 (by rw [markEnd_const]; omega)
 ·intro s j a r hj hs h0 h1 h
  refine Ev.succ ?_
  have h2 : ((j : Int) < (l.length : Int)) = True := eq_true (by omega)
  have h1 : a + 3 ≤ 1000000000 := h1
  have hg : ∀ v, rd_T78 (s.set j v) (j : Int) = v := by
   intro v
   rw [rdc, cat, List.getD_eq_getElem?_getD, List.getElem?_set_self (by omega)]
   rfl
  simp only [laws_markCardS.l0, hs, h2, if_true, nat_nonneg, Int.toNat_natCast, wrap_succ (show j < 4611686018427387904 by omega), wrap_id (x := a + 1) (by omega) (by omega), wrap_id (x := a + 1 + 1) (by omega) (by omega), wrap_id (x := a + 1 + 1 + 1) (by omega) (by omega), Option.bind_some, hg, List.set_set]
  refine Ev.bind (markText_ev a (by omega)) ?_
  have e3 : a + 1 + 1 + 1 = a + (3 : Nat) := by omega
  rw [e3]
  exact h
 ·intro s a hs
  refine Ev.succ ?_
  simp only [laws_markCardS.l0, hs, Int.lt_irrefl, if_false]
  exact Ev.now _
theorem heldCardS_ev (l : List S78) (a : Int) (h0 : 0 ≤ a) (ha : a + 3 * l.length ≤ 1000000000) : Ev (fun k => laws_heldCardS.f k (markCards a l) a) (a + 3 * l.length) := by
 unfold laws_heldCardS.f markCards
 have e : a + 3 * (l.length : Int) = markEnd (fun _ => 3) a l := by rw [markEnd_const]; omega
 rw [e]
 refine Ev.held cmark (fun _ => 3) z78 1000000000 l.length (fun k s a j => laws_heldCardS.l0 k s a j) ?_ ?_ l a rfl h0 (by rw [markEnd_const]; omega)
 ·intro s j a y r hj hs hg h0 h1 h
  refine Ev.succ ?_
  have h2 : ((j : Int) < (l.length : Int)) = True := eq_true (by omega)
  have h1 : a + 3 ≤ 1000000000 := h1
  have hg' : rd_T78 s (j : Int) = cmark a y := by rw [rdc]; exact hg
  simp only [laws_heldCardS.l0, hs, h2, if_true, nat_nonneg, hg', wrap_succ (show j < 4611686018427387904 by omega), wrap_id (x := a + 1) (by omega) (by omega), wrap_id (x := a + 1 + 1) (by omega) (by omega), wrap_id (x := a + 1 + 1 + 1) (by omega) (by omega)]
  refine Ev.bind (markText_ev a (by omega)) ?_
  simp only [cmark, if_true]
  have e3 : a + 1 + 1 + 1 = a + (3 : Nat) := by omega
  rw [e3]
  exact h
 ·intro s a hs
  refine Ev.succ ?_
  simp only [laws_heldCardS.l0, hs, Int.lt_irrefl, if_false]
  exact Ev.now _
theorem rdI (l : List Int) (j : Nat) : rd l (j : Int) = l.getD j 0 := by simp [rd]
theorem eqIntS_ev (l : List Int) (hl : l.length < 4611686018427387904) : Ev (fun k => laws_eqIntS.f k l l) true := by
 unfold laws_eqIntS.f
 simp only [if_true]
 exact Ev.upto (L := fun k j => laws_eqIntS.l0 k l l (j : Int)) (r := true) (n := l.length)
  (by
   refine Ev.succ ?_
   simp only [laws_eqIntS.l0, Int.lt_irrefl, if_false]
   exact Ev.now _)
  (by
   intro j hj h
   refine Ev.succ ?_
   have h1 : ((j : Int) < (l.length : Int)) = True := eq_true (by omega)
   simp only [laws_eqIntS.l0, h1, if_true, nat_nonneg, wrap_succ (show j < 4611686018427387904 by omega)]
   exact h)
  0 (Nat.zero_le _)
def markInts (a : Int) (n : Nat) : List Int := (List.range n).map fun i : Nat => a + (i : Int)
theorem markInts_length (a : Int) (n : Nat) : (markInts a n).length = n := by simp [markInts]
theorem markInts_succ (a : Int) (n : Nat) : markInts a (n + 1) = markInts a n ++ [a + n] := by simp [markInts, List.range_succ]
theorem markInts_get (a : Int) (n j : Nat) (h : j < n) : (markInts a n).getD j 0 = a + j := by
 simp [markInts, List.getD_eq_getElem?_getD, h]
theorem markIntS_ev (l : List Int) (a : Int) (h0 : 0 ≤ a) (ha : a + l.length < 4611686018427387904) : Ev (fun k => laws_markIntS.f k l a) (a + l.length, markInts a l.length) := by
 unfold laws_markIntS.f
 have key := Ev.upto (L := fun k j => laws_markIntS.l0 k (markInts a j ++ l.drop j) (a + j) (j : Int)) (r := (a + l.length, markInts a l.length)) (n := l.length)
  (by
   refine Ev.succ ?_
   have hlen : (markInts a l.length ++ l.drop l.length).length = l.length := by simp [markInts_length]
   simp only [laws_markIntS.l0, hlen, Int.lt_irrefl, if_false]
   simp only [List.drop_length, List.append_nil]
   exact Ev.now _)
  (by
   intro j hj h
   refine Ev.succ ?_
   have hlen : (markInts a j ++ l.drop j).length = l.length := by simp [markInts_length]; omega
   have h1 : ((j : Int) < (l.length : Int)) = True := eq_true (by omega)
   have e : (markInts a j ++ l.drop j).set j (a + j) = markInts a (j + 1) ++ l.drop (j + 1) := by
    rw [List.set_append_right _ _ (by simp [markInts_length]), markInts_length, Nat.sub_self, List.drop_eq_getElem_cons hj, List.set_cons_zero, markInts_succ, List.append_assoc]
    rfl
   simp only [laws_markIntS.l0, hlen, h1, if_true, nat_nonneg, Int.toNat_natCast, e, wrap_succ (show j < 4611686018427387904 by omega), wrap_id (x := a + (j : Int) + 1) (by omega) (by omega)]
   rw [show a + (j : Int) + 1 = a + ((j + 1 : Nat) : Int) by omega]
   exact h)
  0 (Nat.zero_le _)
 simpa [markInts] using key
theorem heldIntS_ev (n : Nat) (a : Int) (h0 : 0 ≤ a) (ha : a + n < 4611686018427387904) : Ev (fun k => laws_heldIntS.f k (markInts a n) a) (a + n) := by
 unfold laws_heldIntS.f
 have key := Ev.upto (L := fun k j => laws_heldIntS.l0 k (markInts a n) (a + j) (j : Int)) (r := a + (n : Int)) (n := n)
  (by
   refine Ev.succ ?_
   simp only [laws_heldIntS.l0, markInts_length, Int.lt_irrefl, if_false]
   exact Ev.now _)
  (by
   intro j hj h
   refine Ev.succ ?_
   have h1 : ((j : Int) < (n : Int)) = True := eq_true (by omega)
   simp only [laws_heldIntS.l0, markInts_length, h1, if_true, nat_nonneg, rdI, markInts_get a n j hj, wrap_succ (show j < 4611686018427387904 by omega), wrap_id (x := a + (j : Int) + 1) (by omega) (by omega)]
   rw [show a + (j : Int) + 1 = a + ((j + 1 : Nat) : Int) by omega]
   exact h)
  0 (Nat.zero_le _)
 simpa using key
end Go.Proofs.Ytcpkobahiciadaa.Pure
namespace Go.Proofs.Ytcpkobahiciadaa.Pure
open Go.RowKit Go.Proofs.Ytcpkobahiciadaa.Q Go.Proofs.YtcpkobahiciadaaW.PrintWords Go.Proofs.YtcpkobahiciadaaW.PrintLast

theorem FnExactRunAnswers : laws_FnExactRunAnswers.Pure := by
 intro l q h hz h2 hz2
 refine Ev.rounds ?_
 unfold laws_FnExactRunAnswers.f
 obtain ⟨r, hb, hr1, hr⟩ := szCardA_ev l h hz
 refine Ev.bind hr ?_
 by_cases h0 : r < 0
 ·simp only [eq_true h0, if_true]
  exact Ev.now _
 simp only [eq_false h0, if_false]
 obtain ⟨r2, hc, hr2⟩ := szAnswerS_ev q r (by omega) hr1 h2 hz2
 refine Ev.bind hr2 ?_
 by_cases h1 : r2 < 0
 ·simp only [eq_true h1, if_true]
  exact Ev.now _
 simp only [eq_false h1, if_false]
 have hb' := hb (by omega)
 have hc' := hc (by omega)
 have hk : (l.map cconv).length ≤ 1048576 := by rw [List.length_map]; exact hb'
 have hka : (q.map aconv).length ≤ 1048576 := by rw [List.length_map]; exact hc'
 have hs := csz_map l hz
 have hsa := asz_map q hz2
 obtain ⟨n1, n2⟩ := runAll_len (l.map cconv) (q.map aconv) hs
 have hi := implRun_ev _ _ hk hs hsa hka
 have hsp := specRun_ev _ _ hk hs hsa hka
 generalize runAll (l.map cconv) (q.map aconv) = T at n1 n2 hi hsp
 refine Ev.bind (toCardS_ev l h) ?_
 refine Ev.bind (toAnswerS_ev q h2) ?_
 refine Ev.bind hsp ?_
 refine Ev.bind (toCardS_ev l h) ?_
 refine Ev.bind (toAnswerS_ev q h2) ?_
 refine Ev.bind hi ?_
 refine Ev.bind (eqCardS_ev _ (by omega)) ?_
 simp only [if_true]
 refine Ev.bind (eqIntS_ev _ (by omega)) ?_
 simp only [bne_self_eq_false, if_true]
 refine Ev.succ ?_
 simp only [laws_FnExactRunAnswers.j0, Bool.false_eq_true, if_false]
 refine Ev.bind (toCardS_ev l h) ?_
 refine Ev.bind (eqCardS_ev _ (by omega)) ?_
 simp only [if_true]
 refine Ev.bind (toAnswerS_ev q h2) ?_
 refine Ev.bind (eqAnswerS_ev _ (by omega)) ?_
 simp only [if_true]
 refine Ev.bind (markCardS_ev _ 1 (by decide) (by omega)) ?_
 refine Ev.bind (markAnswerS_ev _ _ (by omega) (by omega)) ?_
 simp only [show ((1 + 3 * ((l.map cconv).length : Int)) + 3 * ((q.map aconv).length : Int) < 0) = False from eq_false (by omega), if_false]
 refine Ev.bind (eqCardS_ev _ (by omega)) ?_
 simp only [if_true]
 refine Ev.bind (eqIntS_ev _ (by omega)) ?_
 simp only [bne_self_eq_false, if_true]
 refine Ev.succ ?_
 simp only [laws_FnExactRunAnswers.j1, Bool.false_eq_true, if_false]
 have hh := heldCardS_ev T.1 1 (by decide) (by omega)
 have hh2 := heldIntS_ev T.2.1.length (1 + 3 * (T.1.length : Int)) (by omega) (by omega)
 refine Ev.bind (markCardS_ev _ 1 (by decide) (by omega)) ?_
 refine Ev.bind (markIntS_ev _ _ (by omega) (by omega)) ?_
 refine Ev.bind hh ?_
 simp only [show (1 + 3 * (T.1.length : Int) < 0) = False from eq_false (by omega), if_false]
 refine Ev.bind hh2 ?_
 simp only [show (1 + 3 * (T.1.length : Int) + (T.2.1.length : Int) < 0) = False from eq_false (by omega), if_false, if_true]
 refine Ev.bind (toCardS_ev l h) ?_
 refine Ev.bind (toAnswerS_ev q h2) ?_
 refine Ev.bind hi ?_
 refine Ev.bind (eqCardS_ev _ (by omega)) ?_
 simp only [if_true]
 refine Ev.bind (eqIntS_ev _ (by omega)) ?_
 simp only [bne_self_eq_false, if_true]
 refine Ev.succ ?_
 simp only [laws_FnExactRunAnswers.j2, Bool.false_eq_true, if_false]
 refine Ev.bind hh ?_
 simp only [show (1 + 3 * (T.1.length : Int) < 0) = False from eq_false (by omega), if_false]
 refine Ev.bind hh2 ?_
 simp only [show (1 + 3 * (T.1.length : Int) + (T.2.1.length : Int) < 0) = False from eq_false (by omega), if_false, if_true]
 exact Ev.now _
end Go.Proofs.Ytcpkobahiciadaa.Pure
