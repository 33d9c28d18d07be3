/- For every list of cards, every day and number, the program's PlanDay returns what the reference's PlanDay returns, leaves the list alone, and hands back memory of its own. No condition. -/
import Derived.Test.YtcpkobahiciadaaQBImplWithin
import Derived.Test.YtcpkobahiciadaaQBLawsSzCard
import Derived.Test.YtcpkobahiciadaaQBSlicesCloneImplCard
import Derived.Test.YtcpkobahiciadaaQBSlicesStableCmpFuncImplCard
import Derived.Test.YtcpkobahiciadaaQBSpecRpBefore
import Derived.Test.YtcpkobahiciadaaQBounds
import Derived.Test.YtcpkobahiciadaaQImplAreCards
import Derived.Test.YtcpkobahiciadaaQLawsFnExactPlanDay
import Derived.Test.YtcpkobahiciadaaQSlicesDeleteFuncImplCard
import Derived.Test.YtcpkobahiciadaaQSlicesInsertionSortCmpFuncImplCard
import Derived.Test.YtcpkobahiciadaaQSpecPlanDay
import Derived.Test.YtcpkobahiciadaaQSpecRpGood
import Derived.Test.YtcpkobahiciadaaQ0
import Derived.Test.YtcpkobahiciadaaWWords
import Derived.Lib.Bytealg
import Derived.Test.YtcpkobahiciadaaGStr
set_option linter.unusedVariables false
set_option linter.unusedSimpArgs false
namespace Go.Proofs.Ytcpkobahiciadaa.Pure
open Go.RowKit Go.Proofs.Ytcpkobahiciadaa.Q Go.Proofs.YtcpkobahiciadaaW.PrintLast Go.Proofs.YtcpkobahiciadaaW.PrintWords
theorem Ev.succ {α : Type} {g : Nat → Option α} {r : α} (h : Ev (fun k => g (k + 1)) r) : Ev g r := Ev.step (fun _ => rfl) h
theorem Ev.k {α : Type} {g : Nat → Option α} {o : Option α} {r : α} (hg : ∀ k, g k = o) (h : o = some r) : Ev g r := ⟨0, fun k _ => (hg k).trans h⟩
theorem Ev.eq {α : Type} {g : Nat → Option α} {r r' : α} (h : Ev g r) (e : r = r') : Ev g r' := e ▸ h
/-- From round i up to round n. -/
theorem Ev.upto {β : Type} {L : Nat → Nat → Option β} {r : β} {n : Nat} (hend : Ev (fun k => L k n) r)
  (hstep : ∀ j, j < n → Ev (fun k => L k (j + 1)) r → Ev (fun k => L k j) r) : ∀ i, i ≤ n → Ev (fun k => L k i) r := by
 intro i hi
 obtain ⟨d, hd⟩ : ∃ d, n = i + d := ⟨n - i, by omega⟩
 induction d generalizing i with
 | zero => simp at hd; subst hd; exact hend
 | succ d ih => exact hstep i (by omega) (ih (i + 1) (by omega) (by omega))
/-- A loop that ends early where P fails. -/
theorem Ev.all {β : Type} {L : Nat → Nat → Option β} {P : Nat → Bool} {n : Nat} {a b : β} (hend : Ev (fun k => L k n) a)
  (hyes : ∀ j r, j < n → P j = true → Ev (fun k => L k (j + 1)) r → Ev (fun k => L k j) r) (hno : ∀ j, j < n → P j = false → Ev (fun k => L k j) b) :
  ∀ i, i ≤ n → Ev (fun k => L k i) (if (List.range' i (n - i)).all P then a else b) := by
 intro i hi
 obtain ⟨d, hd⟩ : ∃ d, n = i + d := ⟨n - i, by omega⟩
 induction d generalizing i with
 | zero => simp at hd; subst hd; simpa using hend
 | succ d ih =>
  have h1 : n - i = (n - (i + 1)) + 1 := by omega
  rw [h1, List.range'_succ]
  simp only [List.all_cons]
  rcases Bool.eq_false_or_eq_true (P i) with hP | hP
  ·simp only [hP, Bool.true_and]
   exact hyes i _ (by omega) hP (ih (i + 1) (by omega) (by omega))
  ·simpa [hP] using hno i (by omega) hP
theorem Ev.all0 {β : Type} {L : Nat → Nat → Option β} {P : Nat → Bool} {n : Nat} {a b : β} (hend : Ev (fun k => L k n) a)
  (hyes : ∀ j r, j < n → P j = true → Ev (fun k => L k (j + 1)) r → Ev (fun k => L k j) r) (hno : ∀ j, j < n → P j = false → Ev (fun k => L k j) b) :
  Ev (fun k => L k 0) (if (List.range n).all P then a else b) := by
 have := Ev.all hend hyes hno 0 (Nat.zero_le _)
 rwa [Nat.sub_zero, ← List.range_eq_range'] at this

theorem wrap_id {x : Int} (h0 : -9223372036854775808 ≤ x) (h1 : x ≤ 9223372036854775807) : wrap64 x = x := by
 unfold wrap64
 omega
theorem wrap_succ {n : Nat} (h : n < 4611686018427387904) : wrap64 ((n : Int) + 1) = ((n + 1 : Nat) : Int) := by
 rw [wrap_id (by omega) (by omega)]
 omega
theorem wrap_pred {n : Nat} (h0 : 0 < n) (h : n < 4611686018427387904) : wrap64 ((n : Int) - 1) = ((n - 1 : Nat) : Int) := by
 rw [wrap_id (by omega) (by omega)]
 omega
theorem nat_nonneg (n : Nat) : (0 ≤ (n : Int)) = True := eq_true (Int.natCast_nonneg n)
theorem getD_map {α β : Type} (f : α → β) (l : List α) (i : Nat) (d : α) (e : β) (h : i < l.length) : (l.map f).getD i e = f (l.getD i d) := by
 simp [List.getD_eq_getElem?_getD, List.getElem?_eq_getElem h]

/-- A copy, element by element, into a row that was made. -/
theorem Ev.copy {α β : Type} (f : α → β) (l : List α) (za : α) (zb : β) (L : Nat → List β → Int → Option (List β))
  (hstep : ∀ (j : Nat) (s r : List β), j < l.length → s.length = l.length → Ev (fun k => L k (s.set j (f (l.getD j za))) ((j + 1 : Nat) : Int)) r → Ev (fun k => L k s (j : Int)) r)
  (hend : ∀ s : List β, s.length = l.length → Ev (fun k => L k s (l.length : Int)) s) : Ev (fun k => L k (List.replicate l.length zb) 0) (l.map f) := by
 have key := Ev.upto (L := fun k j => L k ((l.map f).take j ++ List.replicate (l.length - j) zb) (j : Int)) (r := l.map f) (n := l.length)
  (by
   have h := hend ((l.map f).take l.length ++ List.replicate (l.length - l.length) zb) (by simp)
   refine Ev.eq h ?_
   rw [Nat.sub_self, List.replicate_zero, List.append_nil, List.take_of_length_le (by simp)])
  (by
   intro j hj h
   have hlen : ((l.map f).take j ++ List.replicate (l.length - j) zb).length = l.length := by simp; omega
   refine hstep j _ _ hj hlen ?_
   have e : ((l.map f).take j ++ List.replicate (l.length - j) zb).set j (f (l.getD j za)) = (l.map f).take (j + 1) ++ List.replicate (l.length - (j + 1)) zb := by
    have e1 : l.length - j = (l.length - (j + 1)) + 1 := by omega
    rw [e1, List.replicate_succ, List.set_append_right _ _ (by simp; omega)]
    have e2 : j - ((l.map f).take j).length = 0 := by simp; omega
    rw [e2, List.set_cons_zero, List.take_succ_eq_append_getElem (by simpa using hj)]
    simp [List.getD_eq_getElem?_getD, List.getElem?_eq_getElem hj]
   rw [e]
   exact h)
  0 (Nat.zero_le _)
 simpa using key
/-- What is left of a size, or that it was passed. -/
theorem Ev.sz {L : Nat → Nat → Int → Option Int} {n : Nat}
  (hstep : ∀ (j : Nat) (a : Int), j < n → 0 ≤ a → a ≤ 1048576 → (∃ a', 0 ≤ a' ∧ a' ≤ a ∧ ∀ r, Ev (fun k => L k (j + 1) a') r → Ev (fun k => L k j a) r) ∨ Ev (fun k => L k j a) (-1))
  (hend : ∀ a : Int, 0 ≤ a → a ≤ 1048576 → Ev (fun k => L k n a) a) :
  ∀ (j : Nat), j ≤ n → ∀ a : Int, 0 ≤ a → a ≤ 1048576 → ∃ r, r ≤ a ∧ Ev (fun k => L k j a) r := by
 intro j hj
 obtain ⟨d, hd⟩ : ∃ d, n = j + d := ⟨n - j, by omega⟩
 induction d generalizing j with
 | zero => simp at hd; subst hd; exact fun a h0 h1 => ⟨a, Int.le_refl _, hend a h0 h1⟩
 | succ d ih =>
  intro a h0 h1
  rcases hstep j a (by omega) h0 h1 with ⟨a', h2, h3, h4⟩ | h5
  ·obtain ⟨r, h6, h7⟩ := ih (j + 1) (by omega) (by omega) a' h2 (by omega)
   exact ⟨r, by omega, h4 r h7⟩
  ·exact ⟨-1, by omega, h5⟩
/-- The marks of a row: m a x is x marked from a on, c x how many marks that takes. -/
def markAll {β : Type} (m : Int → β → β) (c : β → Nat) : Int → List β → List β
 | _, [] => []
 | a, x :: r => m a x :: markAll m c (a + c x) r
def markEnd {β : Type} (c : β → Nat) : Int → List β → Int
 | a, [] => a
 | a, x :: r => markEnd c (a + c x) r
theorem markEnd_ge {β : Type} (c : β → Nat) : ∀ (l : List β) (a : Int), a ≤ markEnd c a l
 | [], a => Int.le_refl _
 | x :: r, a => by have := markEnd_ge c r (a + c x); simp only [markEnd]; omega
theorem markAll_length {β : Type} (m : Int → β → β) (c : β → Nat) : ∀ (l : List β) (a : Int), (markAll m c a l).length = l.length
 | [], _ => rfl
 | x :: r, a => by simp [markAll, markAll_length m c r]
theorem markEnd_const {β : Type} (n : Nat) : ∀ (l : List β) (a : Int), markEnd (fun _ => n) a l = a + n * l.length
 | [], a => by simp [markEnd]
 | x :: r, a => by
  simp only [markEnd, markEnd_const n r, List.length_cons]
  have : (n : Int) * ((r.length + 1 : Nat) : Int) = n * r.length + n := by rw [Int.natCast_add, Int.mul_add]; simp
  omega
theorem Ev.mark {β : Type} (m : Int → β → β) (c : β → Nat) (z : β) (B : Int) (N : Nat) (L : Nat → List β → Int → Int → Option (Int × List β))
  (hstep : ∀ (s : List β) (j : Nat) (a : Int) (r : Int × List β), j < N → s.length = N → 0 ≤ a → a + c (s.getD j z) ≤ B → Ev (fun k => L k (s.set j (m a (s.getD j z))) (a + c (s.getD j z)) ((j + 1 : Nat) : Int)) r → Ev (fun k => L k s a (j : Int)) r)
  (hend : ∀ (s : List β) (a : Int), s.length = N → Ev (fun k => L k s a (N : Int)) (a, s)) :
  ∀ (l : List β) (a : Int), l.length = N → 0 ≤ a → markEnd c a l ≤ B → Ev (fun k => L k l a 0) (markEnd c a l, markAll m c a l) := by
 have key : ∀ (l d : List β) (a : Int), d.length + l.length = N → 0 ≤ a → markEnd c a l ≤ B → Ev (fun k => L k (d ++ l) a (d.length : Int)) (markEnd c a l, d ++ markAll m c a l) := by
  intro l
  induction l with
  | nil =>
   intro d a hN _ _
   simp only [List.append_nil, markEnd, markAll]
   rw [List.length_nil, Nat.add_zero] at hN
   rw [hN]
   exact hend d a hN
  | cons x r ih =>
   intro d a hN h0 h1
   rw [List.length_cons] at hN
   have hx : (d ++ x :: r).getD d.length z = x := by simp [List.getD_eq_getElem?_getD]
   have hB := markEnd_ge c r (a + c x)
   simp only [markEnd] at h1
   refine hstep _ _ _ _ (by omega) (by simp; omega) h0 (by rw [hx]; omega) ?_
   rw [hx]
   have e : (d ++ x :: r).set d.length (m a x) = (d ++ [m a x]) ++ r := by
    rw [List.set_append_right _ _ (Nat.le_refl _), Nat.sub_self, List.set_cons_zero, List.append_assoc]
    rfl
   have h2 := ih (d ++ [m a x]) (a + c x) (by simp; omega) (by omega) h1
   rw [e]
   simpa [markAll, markEnd] using h2
 intro l a hN h0 h1
 simpa using key l [] a (by simpa using hN) h0 h1
theorem Ev.held {β : Type} (m : Int → β → β) (c : β → Nat) (z : β) (B : Int) (N : Nat) (L : Nat → List β → Int → Int → Option Int)
  (hstep : ∀ (s : List β) (j : Nat) (a : Int) (y : β) (r : Int), j < N → s.length = N → s.getD j z = m a y → 0 ≤ a → a + c y ≤ B → Ev (fun k => L k s (a + c y) ((j + 1 : Nat) : Int)) r → Ev (fun k => L k s a (j : Int)) r)
  (hend : ∀ (s : List β) (a : Int), s.length = N → Ev (fun k => L k s a (N : Int)) a) :
  ∀ (l : List β) (a : Int), l.length = N → 0 ≤ a → markEnd c a l ≤ B → Ev (fun k => L k (markAll m c a l) a 0) (markEnd c a l) := by
 have key : ∀ (l d : List β) (a : Int), d.length + l.length = N → 0 ≤ a → markEnd c a l ≤ B → Ev (fun k => L k (d ++ markAll m c a l) a (d.length : Int)) (markEnd c a l) := by
  intro l
  induction l with
  | nil =>
   intro d a hN _ _
   simp only [List.append_nil, markEnd, markAll]
   rw [List.length_nil, Nat.add_zero] at hN
   rw [hN]
   exact hend d a hN
  | cons x r ih =>
   intro d a hN h0 h1
   rw [List.length_cons] at hN
   have hB := markEnd_ge c r (a + c x)
   simp only [markEnd] at h1
   refine hstep _ _ _ x _ (by omega) (by simp [markAll, markAll_length]; omega) (by simp [markAll, List.getD_eq_getElem?_getD]) h0 (by omega) ?_
   have h2 := ih (d ++ [m a x]) (a + c x) (by simp; omega) (by omega) h1
   simpa [markAll, markEnd] using h2
 intro l a hN h0 h1
 simpa using key l [] a (by simpa using hN) h0 h1
def inB (a b c : Int) : Bool := decide (b ≤ a ∧ a ≤ c)
theorem l1In_eq (a b c : Int) : spec_l1In.f a b c = some (inB a b c) := by
 unfold spec_l1In.f inB
 split <;> simp <;> omega
theorem within_eq (a b c : Int) : impl_within.f a b c = some (inB a b c) := by
 unfold impl_within.f inB
 split <;> simp <;> omega
def capAt (s : ByteArray) (j : Nat) : Bool := decide (65 ≤ bt s j ∧ bt s j ≤ 90)
def glossB (s : ByteArray) : Bool := inB s.size 1 8 && (List.range s.size).all (capAt s)
def caps : ByteArray := ⟨#[65, 66, 67, 68, 69, 70, 71, 72, 73, 74, 75, 76, 77, 78, 79, 80, 81, 82, 83, 84, 85, 86, 87, 88, 89, 90]⟩
theorem caps_all : ((List.range 256).all fun n => decide (Lib.indexByte caps.data.toList n.toUInt8 < 0) == !(decide (65 ≤ n ∧ n ≤ 90))) = true := by decide +kernel
theorem caps_index (b : Int) (h0 : 0 ≤ b) (h1 : b ≤ 255) : (Lib.indexByte caps.data.toList b.toNat.toUInt8 < 0) ↔ ¬ (65 ≤ b ∧ b ≤ 90) := by
 have h := List.all_eq_true.1 caps_all b.toNat (List.mem_range.2 (by omega))
 simp only [beq_iff_eq] at h
 by_cases hc : 65 ≤ b ∧ b ≤ 90
 ·have h2 : decide (65 ≤ b.toNat ∧ b.toNat ≤ 90) = true := decide_eq_true (by omega)
  rw [h2] at h
  exact ⟨fun h3 => absurd h3 (of_decide_eq_false h), fun h3 => absurd hc h3⟩
 ·have h2 : decide (65 ≤ b.toNat ∧ b.toNat ≤ 90) = false := decide_eq_false (by omega)
  rw [h2] at h
  exact ⟨fun _ => hc, fun _ => of_decide_eq_true h⟩
theorem hasOnly_ev (s : ByteArray) (hs : s.size < 4611686018427387904) : Ev (fun k => impl_hasOnly.f k s caps) ((List.range s.size).all (capAt s)) := by
 unfold impl_hasOnly.f
 refine Ev.eq (Ev.all0 (L := fun k j => impl_hasOnly.l0 k s caps (s.size : Int) (j : Int)) (P := capAt s) (n := s.size) (a := true) (b := false) ?_ ?_ ?_) (by split <;> simp_all)
 ·refine Ev.succ ?_
  simp only [impl_hasOnly.l0, Int.lt_irrefl, if_false]
  exact Ev.now _
 ·intro j r hj hP h
  refine Ev.succ ?_
  have h1 : ((j : Int) < (s.size : Int)) = True := eq_true (by omega)
  have hb := bt_range s (j : Int)
  have h2 : (Lib.indexByte caps.data.toList (bt s (j : Int)).toNat.toUInt8 < 0) = False := eq_false (fun hc => (caps_index _ hb.1 hb.2).1 hc (of_decide_eq_true hP))
  simp only [impl_hasOnly.l0, strings_IndexByte.f, Option.bind_some, h1, if_true, nat_nonneg, h2, if_false, wrap_succ (show j < 4611686018427387904 by omega)]
  exact h
 ·intro j hj hP
  refine Ev.succ ?_
  have h1 : ((j : Int) < (s.size : Int)) = True := eq_true (by omega)
  have hb := bt_range s (j : Int)
  have h2 : (Lib.indexByte caps.data.toList (bt s (j : Int)).toNat.toUInt8 < 0) = True := eq_true ((caps_index _ hb.1 hb.2).2 (of_decide_eq_false hP))
  simp only [impl_hasOnly.l0, strings_IndexByte.f, Option.bind_some, h1, if_true, nat_nonneg, h2]
  exact Ev.now _
theorem isGloss_ev (s : ByteArray) (hs : s.size < 4611686018427387904) : Ev (fun k => impl_IsGloss.f k s) (glossB s) := by
 unfold impl_IsGloss.f impl_isWordOf.f glossB
 refine Ev.bind (a := inB s.size 1 8 && (List.range s.size).all (capAt s)) ?_ (Ev.now _)
 simp only [within_eq, Option.bind_some]
 rcases Bool.eq_false_or_eq_true (inB s.size 1 8) with h | h
 ·simp only [h, if_true, Bool.true_and]
  exact Ev.bind (hasOnly_ev s hs) (Ev.now _)
 ·simp only [h]
  exact Ev.now _
theorem fsWord_ev (s : ByteArray) (hs : s.size < 4611686018427387904) : Ev (fun k => spec_fsWord.f k s) (glossB s) := by
 unfold spec_fsWord.f
 refine Ev.eq (Ev.all0 (L := fun k j => spec_fsWord.l0 k s (j : Int)) (P := capAt s) (n := s.size) (a := inB s.size 1 8) (b := false) ?_ ?_ ?_) (by unfold glossB; split <;> simp_all)
 ·refine Ev.succ ?_
  simp only [spec_fsWord.l0, Int.lt_irrefl, if_false, l1In_eq, Option.bind_some]
  exact Ev.now _
 ·intro j r hj hP h
  refine Ev.succ ?_
  have h1 : ((j : Int) < (s.size : Int)) = True := eq_true (by omega)
  have hP' := of_decide_eq_true hP
  simp only [spec_fsWord.l0, h1, if_true, nat_nonneg, show (bt s (j : Int) < 65) = False from eq_false (by omega), show (bt s (j : Int) > 90) = False from eq_false (by omega), if_false, wrap_succ (show j < 4611686018427387904 by omega)]
  exact h
 ·intro j hj hP
  refine Ev.succ ?_
  have h1 : ((j : Int) < (s.size : Int)) = True := eq_true (by omega)
  have hP' := of_decide_eq_false hP
  simp only [spec_fsWord.l0, h1, if_true, nat_nonneg]
  by_cases h2 : bt s (j : Int) < 65
  ·simp only [eq_true h2, if_true]
   exact Ev.now _
  ·simp only [eq_false h2, if_false, show (bt s (j : Int) > 90) = True from eq_true (by omega), if_true]
   exact Ev.now _
def cardB (g : ByteArray) (b d : Int) : Bool := glossB g && (inB b 0 5 && inB d 0 99999)
theorem isFrame_eq (d : Int) : impl_isFrame.f d = some (inB d 0 99999) := by
 unfold impl_isFrame.f
 simp only [within_eq, Option.bind_some]
theorem rpDay_eq (d : Int) : spec_rpDay.f d = some (inB d 0 99999) := by
 unfold spec_rpDay.f
 simp only [l1In_eq, Option.bind_some]
theorem isCard_ev (g : ByteArray) (b d : Int) (hs : g.size < 4611686018427387904) : Ev (fun k => impl_isCard.f k g b d) (cardB g b d) := by
 unfold impl_isCard.f cardB
 refine Ev.bind (isGloss_ev g hs) ?_
 simp only [within_eq, isFrame_eq, Option.bind_some]
 rcases Bool.eq_false_or_eq_true (glossB g) with h | h <;> rcases Bool.eq_false_or_eq_true (inB b 0 5) with h2 | h2 <;> simp only [h, h2] <;> exact Ev.now _
theorem rpOne_ev (g : ByteArray) (b d : Int) (hs : g.size < 4611686018427387904) : Ev (fun k => spec_rpOne.f k g b d) (cardB g b d) := by
 unfold spec_rpOne.f cardB
 refine Ev.bind (fsWord_ev g hs) ?_
 simp only [l1In_eq, rpDay_eq, Option.bind_some]
 rcases Bool.eq_false_or_eq_true (glossB g) with h | h <;> rcases Bool.eq_false_or_eq_true (inB b 0 5) with h2 | h2 <;> simp only [h, h2] <;> exact Ev.now _
def cat (l : List S78) (j : Nat) : S78 := l.getD j z78
theorem rdc (l : List S78) (j : Nat) : rd_T78 l (j : Int) = cat l j := by simp [rd_T78, cat]
theorem rdcL (l : List S70) (j : Nat) : rd_T70 l (j : Int) = l.getD j z70 := by simp [rd_T70]
def cOk (x : S78) : Bool := cardB x.f0 x.f1 x.f2
def cAt (l : List S78) (i : Nat) : Bool := cOk (cat l i) && (decide (i = 0) || Op.bytesLess (cat l (i - 1)).f0.toList (cat l i).f0.toList)
def cgoodB (l : List S78) : Bool := if (List.range l.length).all (cAt l) then decide (l.length ≤ 20) else false
/-- Every text of the cards is short enough. -/
def CSz (l : List S78) : Prop := ∀ i, i < l.length → (cat l i).f0.size ≤ 140737488351232

theorem rpGood_ev (l : List S78) (hl : l.length < 4611686018427387904) (hz : CSz l) : Ev (fun k => spec_rpGood.f k l) (cgoodB l) := by
 unfold spec_rpGood.f cgoodB
 refine Ev.all0 (L := fun k j => spec_rpGood.l0 k l l (l.length : Int) (j : Int)) (P := cAt l) (n := l.length) ?_ ?_ ?_
 ·refine Ev.succ ?_
  simp only [spec_rpGood.l0, Int.lt_irrefl, if_false]
  refine Ev.eq (Ev.now _) ?_
  rw [decide_eq_decide]
  omega
 ·intro j r hj hP h
  refine Ev.succ ?_
  have h1 : ((j : Int) < (l.length : Int)) = True := eq_true (by omega)
  have hsz := hz j hj
  simp only [cAt, Bool.and_eq_true, Bool.or_eq_true, decide_eq_true_eq, cOk] at hP
  simp only [spec_rpGood.l0, h1, if_true, nat_nonneg, rdc, wrap_succ (show j < 4611686018427387904 by omega)]
  refine Ev.bind (Ev.eq (rpOne_ev (cat l j).f0 (cat l j).f1 (cat l j).f2 (by omega)) hP.1) ?_
  by_cases h0 : j = 0
  ·subst h0
   exact h
  ·have h2 : ((j : Int) > 0) = True := eq_true (by omega)
   have h3 : (((j - 1 : Nat) : Int) < (l.length : Int)) = True := eq_true (by omega)
   have h4 := hP.2.resolve_left h0
   simp only [h2, if_true, wrap_pred (show 0 < j by omega) (show j < 4611686018427387904 by omega), nat_nonneg, h3, rdc, h4]
   exact h
 ·intro j hj hP
  refine Ev.succ ?_
  have h1 : ((j : Int) < (l.length : Int)) = True := eq_true (by omega)
  have hsz := hz j hj
  simp only [cAt, cOk] at hP
  simp only [spec_rpGood.l0, h1, if_true, nat_nonneg, rdc, wrap_succ (show j < 4611686018427387904 by omega)]
  refine Ev.bind (rpOne_ev (cat l j).f0 (cat l j).f1 (cat l j).f2 (by omega)) ?_
  rcases Bool.eq_false_or_eq_true (cardB (cat l j).f0 (cat l j).f1 (cat l j).f2) with hk | hk
  ·simp only [hk, if_true]
   simp only [hk, Bool.true_and, Bool.or_eq_false_iff, decide_eq_false_iff_not] at hP
   have h2 : ((j : Int) > 0) = True := eq_true (by omega)
   have h3 : (((j - 1 : Nat) : Int) < (l.length : Int)) = True := eq_true (by omega)
   simp only [h2, if_true, wrap_pred (show 0 < j by omega) (show j < 4611686018427387904 by omega), nat_nonneg, h3, rdc, hP.2]
   exact Ev.now _
  ·simp only [hk]
   exact Ev.now _
theorem areCards_ev (l : List S78) (hl : l.length < 4611686018427387904) (hz : CSz l) : Ev (fun k => impl_AreCards.f k l) (cgoodB l) := by
 unfold impl_AreCards.f cgoodB
 refine Ev.all0 (L := fun k j => impl_AreCards.l0 k l l (l.length : Int) (j : Int)) (P := cAt l) (n := l.length) ?_ ?_ ?_
 ·refine Ev.succ ?_
  simp only [impl_AreCards.l0, Int.lt_irrefl, if_false]
  refine Ev.eq (Ev.now _) ?_
  rw [decide_eq_decide]
  omega
 ·intro j r hj hP h
  refine Ev.succ ?_
  have h1 : ((j : Int) < (l.length : Int)) = True := eq_true (by omega)
  have hsz := hz j hj
  simp only [cAt, Bool.and_eq_true, Bool.or_eq_true, decide_eq_true_eq, cOk] at hP
  simp only [impl_AreCards.l0, h1, if_true, nat_nonneg, rdc, wrap_succ (show j < 4611686018427387904 by omega)]
  refine Ev.bind (Ev.eq (isCard_ev (cat l j).f0 (cat l j).f1 (cat l j).f2 (by omega)) hP.1) ?_
  by_cases h0 : j = 0
  ·subst h0
   exact h
  ·have h2 : ((j : Int) > 0) = True := eq_true (by omega)
   have h3 : (((j - 1 : Nat) : Int) < (l.length : Int)) = True := eq_true (by omega)
   have h4 := hP.2.resolve_left h0
   simp only [h2, if_true, wrap_pred (show 0 < j by omega) (show j < 4611686018427387904 by omega), nat_nonneg, h3, rdc, h4]
   exact h
 ·intro j hj hP
  refine Ev.succ ?_
  have h1 : ((j : Int) < (l.length : Int)) = True := eq_true (by omega)
  have hsz := hz j hj
  simp only [cAt, cOk] at hP
  simp only [impl_AreCards.l0, h1, if_true, nat_nonneg, rdc, wrap_succ (show j < 4611686018427387904 by omega)]
  refine Ev.bind (isCard_ev (cat l j).f0 (cat l j).f1 (cat l j).f2 (by omega)) ?_
  rcases Bool.eq_false_or_eq_true (cardB (cat l j).f0 (cat l j).f1 (cat l j).f2) with hk | hk
  ·simp only [hk, if_true]
   simp only [hk, Bool.true_and, Bool.or_eq_false_iff, decide_eq_false_iff_not] at hP
   have h2 : ((j : Int) > 0) = True := eq_true (by omega)
   have h3 : (((j - 1 : Nat) : Int) < (l.length : Int)) = True := eq_true (by omega)
   simp only [h2, if_true, wrap_pred (show 0 < j by omega) (show j < 4611686018427387904 by omega), nat_nonneg, h3, rdc, hP.2]
   exact Ev.now _
  ·simp only [hk]
   exact Ev.now _

def cconv (x : S70) : S78 := ⟨x.f0, x.f1, x.f2⟩
theorem toCardS_ev (l : List S70) (hl : l.length * 32 ≤ 140737488351232) : Ev (fun k => laws_toCardS.f k l) (l.map cconv) := by
 unfold laws_toCardS.f
 simp only [nat_nonneg, if_true, Int.toNat_natCast, show (l.length ≤ 8796093022208) = True from eq_true (by omega)]
 refine Ev.copy cconv l z70 z78 (fun k s j => laws_toCardS.l0 k l s j) ?_ ?_
 ·intro j s r hj hs h
  refine Ev.succ ?_
  have h1 : ((j : Int) < (l.length : Int)) = True := eq_true (by omega)
  simp only [laws_toCardS.l0, laws_toCard.f, Option.bind_some, h1, if_true, nat_nonneg, hs, Int.toNat_natCast, wrap_succ (show j < 4611686018427387904 by omega), rdcL]
  exact h
 ·intro s hs
  refine Ev.succ ?_
  simp only [laws_toCardS.l0, Int.lt_irrefl, if_false]
  exact Ev.now _
theorem eqCardS_ev (l : List S78) (hl : l.length < 4611686018427387904) : Ev (fun k => laws_eqCardS.f k l l) true := by
 unfold laws_eqCardS.f
 simp only [if_true]
 exact Ev.upto (L := fun k j => laws_eqCardS.l0 k l l (j : Int)) (r := true) (n := l.length)
  (by
   refine Ev.succ ?_
   simp only [laws_eqCardS.l0, Int.lt_irrefl, if_false]
   exact Ev.now _)
  (by
   intro j hj h
   refine Ev.succ ?_
   have h1 : ((j : Int) < (l.length : Int)) = True := eq_true (by omega)
   simp only [laws_eqCardS.l0, laws_eqCard.f, Option.bind_some, h1, if_true, nat_nonneg, wrap_succ (show j < 4611686018427387904 by omega)]
   exact h)
  0 (Nat.zero_le _)
theorem szCardS_ev (l : List S70) (hl : l.length * 32 ≤ 140737488351232) (hz : ∀ y, y ∈ l → B70 y) : ∃ r, (0 ≤ r → l.length ≤ 1048576) ∧ Ev (fun k => laws_szCardS.f k l 1048576) r := by
 unfold laws_szCardS.f
 rw [wrap_id (x := 1048576 - (l.length : Int)) (by omega) (by omega)]
 by_cases h0 : (1048576 : Int) - l.length < 0
 ·refine ⟨-1, fun h => absurd h (by decide), ?_⟩
  simp only [eq_true h0, if_true]
  exact Ev.now _
 ·obtain ⟨r, _, hr⟩ := Ev.sz (L := fun k j a => laws_szCardS.l0 k l a (j : Int)) (n := l.length)
   (by
    intro j a hj ha0 ha1
    have h1 : ((j : Int) < (l.length : Int)) = True := eq_true (by omega)
    have hy := hz (l.getD j z70) (by rw [List.getD_eq_getElem?_getD, List.getElem?_eq_getElem hj]; exact List.getElem_mem hj)
    have hs : (l.getD j z70).f0.size ≤ 140737488351232 := hy.1
    by_cases hc : a - ((l.getD j z70).f0.size : Int) < 0
    ·refine .inr (Ev.succ ?_)
     simp only [laws_szCardS.l0, laws_szCard.f, h1, if_true, nat_nonneg, rdcL, wrap_id (x := a - ((l.getD j z70).f0.size : Int)) (by omega) (by omega), eq_true hc, Option.bind_some]
     exact Ev.now _
    ·refine .inl ⟨a - ((l.getD j z70).f0.size : Int), by omega, by omega, fun r h => Ev.succ ?_⟩
     simp only [laws_szCardS.l0, laws_szCard.f, h1, if_true, nat_nonneg, rdcL, wrap_id (x := a - ((l.getD j z70).f0.size : Int)) (by omega) (by omega), eq_false hc, if_false, Option.bind_some, wrap_succ (show j < 4611686018427387904 by omega)]
     exact h)
   (by
    intro a _ _
    refine Ev.succ ?_
    simp only [laws_szCardS.l0, Int.lt_irrefl, if_false]
    exact Ev.now _)
   0 (Nat.zero_le _) (1048576 - (l.length : Int)) (by omega) (by omega)
  refine ⟨r, fun _ => by omega, ?_⟩
  simp only [eq_false h0, if_false]
  exact hr
theorem csz_map (l : List S70) (hz : ∀ y, y ∈ l → B70 y) : CSz (l.map cconv) := by
 intro i hi
 rw [List.length_map] at hi
 have hy := hz (l.getD i z70) (by rw [List.getD_eq_getElem?_getD, List.getElem?_eq_getElem hi]; exact List.getElem_mem hi)
 unfold cat
 rw [getD_map cconv l i z70 _ hi]
 exact hy.1
def gk (x : S78) : List UInt8 := x.f0.data.toList
theorem cless (x y : S78) : Op.bytesLess x.f0.toList y.f0.toList = decide (gk x < gk y) := by rw [ByteArray.toList_eq, ByteArray.toList_eq, Go.Proofs.bytesLess_eq]; rfl
theorem cat_get (l : List S78) (j : Nat) (h : j < l.length) : cat l j = l[j] := by unfold cat; rw [List.getD_eq_getElem?_getD, List.getElem?_eq_getElem h]; rfl
theorem adj_pairwise {α : Type} {R : α → α → Prop} (tr : ∀ a b c, R a b → R b c → R a c) (l : List α) (h : ∀ i (hi : i + 1 < l.length), R (l[i]'(by omega)) l[i + 1]) : l.Pairwise R := by
 rw [List.pairwise_iff_getElem]
 intro i j hi hj hij
 obtain ⟨d, rfl⟩ : ∃ d, j = i + 1 + d := ⟨j - (i + 1), by omega⟩
 clear hij
 induction d with
 | zero => exact h i hj
 | succ d ih => exact tr _ _ _ (ih (by omega)) (h (i + 1 + d) (by omega))
theorem cgood_iff (l : List S78) : cgoodB l = true ↔ (∀ x, x ∈ l → cOk x = true) ∧ l.Pairwise (fun a b => gk a < gk b) ∧ l.length ≤ 20 := by
 have key : (List.range l.length).all (cAt l) = true ↔ ∀ i, i < l.length → cAt l i = true := by simp
 unfold cgoodB
 by_cases h : (List.range l.length).all (cAt l) = true
 ·rw [if_pos h, decide_eq_true_eq]
  rw [key] at h
  refine ⟨fun h2 => ⟨fun x hx => ?_, adj_pairwise (R := fun a b => gk a < gk b) (fun a b c h1 h2 => List.lt_trans h1 h2) l fun i hi => ?_, h2⟩, fun h2 => h2.2.2⟩
  ·obtain ⟨i, hi, rfl⟩ := List.mem_iff_getElem.1 hx
   have := h i hi
   unfold cAt at this
   rw [Bool.and_eq_true, cat_get l i hi] at this
   exact this.1
  ·have := h (i + 1) hi
   unfold cAt at this
   rw [Bool.and_eq_true, Nat.add_sub_cancel, cat_get l _ hi, cat_get l i (by omega), cless] at this
   simpa using this.2
 ·rw [if_neg h]
  refine ⟨fun h2 => by simp at h2, fun ⟨h1, h2, h3⟩ => absurd (key.2 fun i hi => ?_) h⟩
  unfold cAt
  rw [Bool.and_eq_true, cat_get l i hi]
  refine ⟨h1 _ (List.getElem_mem hi), ?_⟩
  by_cases h0 : i = 0
  ·simp [h0]
  ·rw [cat_get l (i - 1) (by omega), cless, decide_eq_true (List.pairwise_iff_getElem.1 h2 (i - 1) i (by omega) hi (by omega))]
   simp
/-- x is asked before y, or with it. -/
def leC (x y : S78) : Bool := decide (x.f1 < y.f1 ∨ (x.f1 = y.f1 ∧ x.f2 ≤ y.f2))
/-- Box and day as a card has them. -/
def cN (x : S78) : Prop := (0 ≤ x.f1 ∧ x.f1 ≤ 5) ∧ (0 ≤ x.f2 ∧ x.f2 ≤ 99999)
theorem cN_of {x : S78} (h : cOk x = true) : cN x := by
 unfold cOk cardB inB at h
 simp only [Bool.and_eq_true, decide_eq_true_eq] at h
 exact ⟨h.2.1, h.2.2⟩
/-- x into what is ordered: U (from its end) lies before, V behind. -/
def insU (x : S78) : List S78 → List S78 → List S78
 | [], V => x :: V
 | s :: U, V => if leC s x = true then U.reverse ++ s :: x :: V else insU x U (s :: V)
def insC (L : List S78) (x : S78) : List S78 := insU x L.reverse []
def srtC (F : List S78) : List S78 := F.foldl insC []
theorem insU_length (x : S78) : ∀ U V, (insU x U V).length = U.length + V.length + 1
 | [], V => by simp [insU]
 | s :: U, V => by
  unfold insU
  split
  ·simp only [List.length_append, List.length_reverse, List.length_cons]; omega
  ·rw [insU_length x U (s :: V), List.length_cons, List.length_cons]; omega
theorem insU_mem (x : S78) {y : S78} : ∀ U V, y ∈ insU x U V → y = x ∨ y ∈ U ∨ y ∈ V
 | [], V => fun h => by
  unfold insU at h
  rcases List.mem_cons.1 h with h | h
  ·exact .inl h
  ·exact .inr (.inr h)
 | s :: U, V => fun h => by
  unfold insU at h
  split at h
  ·rcases List.mem_append.1 h with h | h
   ·exact .inr (.inl (List.mem_cons_of_mem _ (List.mem_reverse.1 h)))
   ·rcases List.mem_cons.1 h with h | h
    ·exact .inr (.inl (List.mem_cons.2 (.inl h)))
    ·rcases List.mem_cons.1 h with h | h
     ·exact .inl h
     ·exact .inr (.inr h)
  ·rcases insU_mem x U (s :: V) h with h | h | h
   ·exact .inl h
   ·exact .inr (.inl (List.mem_cons_of_mem _ h))
   ·rcases List.mem_cons.1 h with h | h
    ·exact .inr (.inl (List.mem_cons.2 (.inl h)))
    ·exact .inr (.inr h)
theorem insC_length (L : List S78) (x : S78) : (insC L x).length = L.length + 1 := by unfold insC; rw [insU_length, List.length_reverse, List.length_nil]
theorem insC_mem {L : List S78} {x y : S78} (h : y ∈ insC L x) : y = x ∨ y ∈ L := by
 rcases insU_mem x _ _ h with h | h | h
 ·exact .inl h
 ·exact .inr (List.mem_reverse.1 h)
 ·cases h
theorem srt_length : ∀ (F L : List S78), (F.foldl insC L).length = L.length + F.length
 | [], L => rfl
 | x :: F, L => by rw [List.foldl_cons, srt_length F (insC L x), insC_length, List.length_cons]; omega
theorem catAt {A C : List S78} {x : S78} {j : Nat} (h : j = A.length) : cat (A ++ x :: C) j = x := by
 subst h
 unfold cat
 simp
theorem setC {A C : List S78} {x y : S78} {n : Nat} (h : n = A.length) : (A ++ x :: C).set n y = A ++ y :: C := by
 subst h
 rw [List.set_append_right _ _ (Nat.le_refl _), Nat.sub_self, List.set_cons_zero]
theorem cf_neg {x s : S78} (hx : cN x) (hs : cN s) : (slices_SortStableFunc_impl_Card.cf x.f1 x.f2 s.f1 s.f2 < 0) ↔ ¬ leC s x = true := by
 obtain ⟨⟨a1, a2⟩, a3, a4⟩ := hx
 obtain ⟨⟨b1, b2⟩, b3, b4⟩ := hs
 unfold slices_SortStableFunc_impl_Card.cf leC
 rw [wrap_id (x := x.f1 - s.f1) (by omega) (by omega), wrap_id (x := x.f2 - s.f2) (by omega) (by omega), decide_eq_true_eq]
 split <;> omega
theorem ins_pred {u : Nat} (h : u + 1 ≤ 1048576) : wrap64 (((u + 1 : Nat) : Int) - 1) = (u : Int) := by
 rw [wrap_id (by omega) (by omega)]; omega
theorem insI_l1 (x : S78) (hx : cN x) (C : List S78) (b i : Nat) (hi : i ≤ 1048576) (r : List S78) : ∀ U V, (∀ s, s ∈ U → cN s) → U.length + V.length + C.length + 1 ≤ 1048576 →
  Ev (fun k => slices_insertionSortCmpFunc_impl_Card.l0 slices_SortStableFunc_impl_Card.p k (insU x U V ++ C) 0 (b : Int) ((i + 1 : Nat) : Int)) r →
  Ev (fun k => slices_insertionSortCmpFunc_impl_Card.l1 slices_SortStableFunc_impl_Card.p k (U.reverse ++ x :: (V ++ C)) 0 (b : Int) (i : Int) (U.length : Int)) r := by
 intro U
 induction U with
 | nil =>
  intro V _ _ h
  refine Ev.succ ?_
  simp only [slices_insertionSortCmpFunc_impl_Card.l1, List.length_nil, Int.natCast_zero, show ((0 : Int) > 0) = False from eq_false (Int.lt_irrefl _), if_false, wrap_succ (show i < 4611686018427387904 by omega)]
  exact h
 | cons s U ih =>
  intro V hU hl h
  rw [List.length_cons] at hl
  have hs := hU s (List.mem_cons_self ..)
  have q1 : (s :: U).reverse ++ x :: (V ++ C) = U.reverse ++ s :: (x :: (V ++ C)) := by simp
  have q2 : (s :: U).reverse ++ x :: (V ++ C) = (U.reverse ++ [s]) ++ x :: (V ++ C) := by simp
  have lA : U.length = U.reverse.length := List.length_reverse.symm
  have lB : U.length + 1 = (U.reverse ++ [s]).length := by rw [List.length_append, ← lA, List.length_singleton]
  have r1 : cat ((s :: U).reverse ++ x :: (V ++ C)) U.length = s := by rw [q1]; exact catAt lA
  have r2 : cat ((s :: U).reverse ++ x :: (V ++ C)) (U.length + 1) = x := by rw [q2]; exact catAt lB
  have s1 : (((s :: U).reverse ++ x :: (V ++ C)).set (U.length + 1) s).set U.length x = U.reverse ++ x :: ((s :: V) ++ C) := by
   rw [q2, setC lB, show (U.reverse ++ [s]) ++ s :: (V ++ C) = U.reverse ++ s :: (s :: (V ++ C)) by simp, setC lA]
   rfl
  have ll : ((s :: U).reverse ++ x :: (V ++ C)).length = U.length + (V.length + C.length) + 2 := by rw [q1]; simp only [List.length_append, List.length_reverse, List.length_cons]; omega
  have LL := Aside0.mk ll
  clear ll lA lB q1 q2
  have hw := ins_pred (u := U.length) (by omega)
  have g1 : (((U.length + 1 : Nat) : Int) > 0) = True := eq_true (by omega)
  have g2 : (((U.length + 1 : Nat) : Int) < ((U.length + (V.length + C.length) + 2 : Nat) : Int)) = True := eq_true (by omega)
  have g3 : (((U.length : Nat) : Int) < ((U.length + (V.length + C.length) + 2 : Nat) : Int)) = True := eq_true (by omega)
  refine Ev.succ ?_
  rw [List.length_cons]
  simp only [slices_insertionSortCmpFunc_impl_Card.l1, g1, hw, if_true, nat_nonneg, LL.out, g2, g3, rdc, r1, r2, Int.toNat_natCast, slices_SortStableFunc_impl_Card.p, Option.bind_some]
  by_cases hle : leC s x = true
  ·simp only [eq_false (fun h => (cf_neg hx hs).1 h hle), if_false, wrap_succ (show i < 4611686018427387904 by omega)]
   unfold insU at h
   rw [if_pos hle] at h
   rw [show (s :: U).reverse ++ x :: (V ++ C) = U.reverse ++ s :: x :: V ++ C by simp]
   exact h
  ·simp only [eq_true ((cf_neg hx hs).2 hle), if_true]
   unfold insU at h
   rw [if_neg hle] at h
   have key := ih (s :: V) (fun y hy => hU y (List.mem_cons_of_mem _ hy)) (by rw [List.length_cons]; omega) h
   rw [← s1] at key
   exact key
theorem insI_l0 : ∀ (T L : List S78) (n : Nat), n = L.length + T.length → n ≤ 20 → (∀ s, s ∈ L → cN s) → (∀ s, s ∈ T → cN s) →
  Ev (fun k => slices_insertionSortCmpFunc_impl_Card.l0 slices_SortStableFunc_impl_Card.p k (L ++ T) 0 (n : Int) (L.length : Int)) (T.foldl insC L) := by
 intro T
 induction T with
 | nil =>
  intro L n hn h20 _ _
  refine Ev.succ ?_
  simp only [slices_insertionSortCmpFunc_impl_Card.l0, show ((L.length : Int) < (n : Int)) = False from eq_false (by rw [List.length_nil] at hn; omega), if_false, List.append_nil]
  exact Ev.now _
 | cons x T ih =>
  intro L n hn h20 hL hT
  rw [List.length_cons] at hn
  have key := ih (insC L x) n (by rw [insC_length]; omega) h20 (fun s hs => by
   rcases insC_mem hs with rfl | h
   ·exact hT _ (List.mem_cons_self ..)
   ·exact hL s h) (fun s hs => hT s (List.mem_cons_of_mem _ hs))
  rw [insC_length] at key
  have k2 := insI_l1 x (hT x (List.mem_cons_self ..)) T n L.length (by omega) _ L.reverse [] (fun s hs => hL s (List.mem_reverse.1 hs)) (by rw [List.length_reverse, List.length_nil]; omega) key
  rw [List.reverse_reverse, List.length_reverse, List.nil_append] at k2
  refine Ev.succ ?_
  simp only [slices_insertionSortCmpFunc_impl_Card.l0, show ((L.length : Int) < (n : Int)) = True from eq_true (by omega), if_true]
  exact k2
theorem insI_ev (F : List S78) (h20 : F.length ≤ 20) (hN : ∀ s, s ∈ F → cN s) (x3 : Int) : Ev (fun k => slices_insertionSortCmpFunc_impl_Card.f slices_SortStableFunc_impl_Card.p k F 0 (F.length : Int) x3) (srtC F) := by
 unfold slices_insertionSortCmpFunc_impl_Card.f
 rw [show wrap64 ((0 : Int) + 1) = 1 by rw [wrap_id (by decide) (by decide)]; rfl]
 cases F with
 | nil =>
  refine Ev.succ ?_
  simp only [slices_insertionSortCmpFunc_impl_Card.l0, List.length_nil, Int.natCast_zero, show ((1 : Int) < 0) = False from eq_false (by decide), if_false]
  exact Ev.now _
 | cons x F =>
  rw [List.length_cons] at h20
  have key := insI_l0 F [x] (F.length + 1) (by rw [List.length_singleton]; omega) h20 (fun s hs => by rw [List.mem_singleton.1 hs]; exact hN x (List.mem_cons_self ..)) (fun s hs => hN s (List.mem_cons_of_mem _ hs))
  exact key
theorem sortC_ev (F : List S78) (h20 : F.length ≤ 20) (hN : ∀ s, s ∈ F → cN s) : Ev (fun k => slices_SortStableFunc_impl_Card.f k F) (srtC F) := by
 unfold slices_SortStableFunc_impl_Card.f slices_SortStableFunc_impl_Card.gf slices_stableCmpFunc_impl_Card.f
 have hl : (srtC F).length = F.length := by unfold srtC; rw [srt_length, List.length_nil, Nat.zero_add]
 have fin : Ev (fun k => slices_stableCmpFunc_impl_Card.l1 slices_SortStableFunc_impl_Card.p k (srtC F) (F.length : Int) 0 20) (srtC F) := by
  refine Ev.succ ?_
  simp only [slices_stableCmpFunc_impl_Card.l1, show ((20 : Int) < (F.length : Int)) = False from eq_false (by omega), if_false]
  exact Ev.now _
 refine Ev.bind (a := srtC F) ?_ (Ev.now _)
 refine Ev.succ ?_
 by_cases h : F.length = 20
 ·simp only [slices_stableCmpFunc_impl_Card.l0, show ((20 : Int) ≤ (F.length : Int)) = True from eq_true (by omega), if_true]
  have k1 := insI_ev F h20 hN 0
  rw [h] at k1
  refine Ev.bind k1 ?_
  refine Ev.succ ?_
  rw [show wrap64 ((20 : Int) + 20) = 40 by rw [wrap_id (by decide) (by decide)]; rfl]
  simp only [slices_stableCmpFunc_impl_Card.l0, show ((40 : Int) ≤ (F.length : Int)) = False from eq_false (by omega), if_false]
  refine Ev.bind (a := srtC F) ?_ fin
  unfold slices_insertionSortCmpFunc_impl_Card.f
  refine Ev.succ ?_
  rw [show wrap64 ((20 : Int) + 1) = 21 by rw [wrap_id (by decide) (by decide)]; rfl]
  simp only [slices_insertionSortCmpFunc_impl_Card.l0, show ((21 : Int) < (F.length : Int)) = False from eq_false (by omega), if_false]
  exact Ev.now _
 ·simp only [slices_stableCmpFunc_impl_Card.l0, show ((20 : Int) ≤ (F.length : Int)) = False from eq_false (by omega), if_false]
  exact Ev.bind (insI_ev F h20 hN 0) fin
/-! the reference -/
theorem before_eq (s x : S78) : spec_rpBefore.f s.f0 s.f1 s.f2 x.f0 x.f1 x.f2 = some (leC s x) := by
 unfold spec_rpBefore.f leC
 by_cases h1 : s.f1 < x.f1
 ·rw [if_pos h1]; congr 1; exact (decide_eq_true (.inl h1)).symm
 ·rw [if_neg h1]
  by_cases h2 : s.f1 = x.f1
  ·rw [if_pos h2]; congr 1; rw [decide_eq_decide]; omega
  ·rw [if_neg h2]; congr 1; exact (decide_eq_false (by omega)).symm
theorem insS_l1 (a m : Int) (l : List S78) (n j : Nat) (hj : j ≤ 1048576) (x : S78) (r : List ByteArray × Bool) : ∀ U V, U.length + V.length + 1 ≤ 1048576 →
  Ev (fun k => spec_PlanDay.l0 k a m (insU x U V) l (n : Int) ((j + 1 : Nat) : Int)) r →
  Ev (fun k => spec_PlanDay.l1 k a m (U.reverse ++ V) (U.length : Int) l (n : Int) (j : Int) x.f0 x.f1 x.f2) r := by
 intro U
 induction U with
 | nil =>
  intro V hl h
  rw [List.length_nil] at hl
  refine Ev.succ ?_
  simp only [spec_PlanDay.l1, List.length_nil, Int.natCast_zero, show ((0 : Int) > 0) = False from eq_false (Int.lt_irrefl _), if_false, List.reverse_nil, List.nil_append, Option.bind_some, Int.le_refl, if_true, nat_nonneg, List.take_zero, Int.toNat_zero, List.drop_zero, List.length_nil, List.length_singleton, Nat.zero_add,
   show (0 + 0 < 4398046511104) = True from eq_true (by decide), show (0 < 4398046511104) = True from eq_true (by decide), show (1 < 4398046511104) = True from eq_true (by decide), show (1 + V.length < 4398046511104) = True from eq_true (by omega), wrap_succ (show j < 4611686018427387904 by omega)]
  exact h
 | cons s U ih =>
  intro V hl h
  rw [List.length_cons] at hl
  have q1 : (s :: U).reverse ++ V = U.reverse ++ s :: V := by simp
  have lA : U.length = U.reverse.length := List.length_reverse.symm
  have r1 : cat ((s :: U).reverse ++ V) U.length = s := by rw [q1]; exact catAt lA
  have ll : ((s :: U).reverse ++ V).length = U.length + V.length + 1 := by rw [q1]; simp only [List.length_append, List.length_reverse, List.length_cons]; omega
  have t1 : ((s :: U).reverse ++ V).take (U.length + 1) = U.reverse ++ [s] := by rw [show (s :: U).reverse ++ V = (U.reverse ++ [s]) ++ V by simp, List.take_left' (by simp)]
  have t2 : ((s :: U).reverse ++ V).drop (U.length + 1) = V := by rw [show (s :: U).reverse ++ V = (U.reverse ++ [s]) ++ V by simp, List.drop_left' (by simp)]
  have t3 : (U.reverse ++ [s]).length = U.length + 1 := by simp
  have t4 : (U.reverse ++ [s] ++ [x]).length = U.length + 2 := by simp
  have LL := Aside0.mk ll
  clear ll q1 lA
  have hw := ins_pred (u := U.length) (by omega)
  refine Ev.succ ?_
  rw [List.length_cons]
  simp only [spec_PlanDay.l1, show (((U.length + 1 : Nat) : Int) > 0) = True from eq_true (by omega), if_true, hw, nat_nonneg, LL.out, show (((U.length : Nat) : Int) < ((U.length + V.length + 1 : Nat) : Int)) = True from eq_true (by omega), rdc, r1]
  rw [before_eq]
  by_cases hle : leC s x = true
  ·unfold insU at h
   rw [if_pos hle] at h
   simp only [hle, Option.bind_some, if_true, List.nil_append, Int.toNat_natCast, t1, t2, t3, t4, List.length_nil, List.length_singleton, Nat.zero_add, show (((U.length + 1 : Nat) : Int) ≤ ((U.length + V.length + 1 : Nat) : Int)) = True from eq_true (by omega),
    show (U.length + 1 < 4398046511104) = True from eq_true (by omega), show (U.length + 1 + 1 < 4398046511104) = True from eq_true (by omega), show (U.length + 2 + V.length < 4398046511104) = True from eq_true (by omega), wrap_succ (show j < 4611686018427387904 by omega)]
   rw [show U.reverse ++ [s] ++ [x] ++ V = U.reverse ++ s :: x :: V by simp]
   exact h
  ·unfold insU at h
   rw [if_neg hle] at h
   have key := ih (s :: V) (by rw [List.length_cons]; omega) h
   simp only [eq_false hle, Option.bind_some, if_false]
   rw [show (s :: U).reverse ++ V = U.reverse ++ s :: V by simp]
   exact key
/-- The texts of the first m of L. -/
def firstC (L : List S78) (m : Nat) : List ByteArray := (L.take m).map fun x => x.f0
theorem insS_l2 (L : List S78) (m : Nat) (hL : L.length ≤ 1048576) : ∀ d j, j + d = L.length → Ev (fun k => spec_PlanDay.l2 k (m : Int) L (firstC L (min j m)) (L.length : Int) (j : Int)) (firstC L m, true) := by
 intro d
 induction d with
 | zero =>
  intro j hj
  refine Ev.succ ?_
  simp only [spec_PlanDay.l2, show ((j : Int) < (L.length : Int)) = False from eq_false (by omega), if_false]
  refine Ev.eq (Ev.now _) ?_
  congr 1
  unfold firstC
  congr 1
  by_cases h : j ≤ m
  ·rw [Nat.min_eq_left h, List.take_of_length_le (by omega), List.take_of_length_le (by omega)]
  ·rw [Nat.min_eq_right (by omega)]
 | succ d ih =>
  intro j hj
  refine Ev.succ ?_
  have hlt : j < L.length := by omega
  have hf : (firstC L (min j m)).length ≤ 1048576 := by unfold firstC; rw [List.length_map, List.length_take]; omega
  simp only [spec_PlanDay.l2, show ((j : Int) < (L.length : Int)) = True from eq_true (by omega), if_true, nat_nonneg, rdc, wrap_succ (show j < 4611686018427387904 by omega), Option.bind_some, List.length_singleton, show ((firstC L (min j m)).length + 1 < 8796093022208) = True from eq_true (by omega)]
  have key := ih (j + 1) (by omega)
  by_cases hm : j < m
  ·simp only [show ((j : Int) < (m : Int)) = True from eq_true (by omega), if_true]
   rw [Nat.min_eq_left (by omega)] at key ⊢
   have e : firstC L (j + 1) = firstC L j ++ [(cat L j).f0] := by
    unfold firstC
    rw [List.take_succ_eq_append_getElem hlt, List.map_append, cat_get L j hlt]
    rfl
   rw [e] at key
   exact key
  ·simp only [show ((j : Int) < (m : Int)) = False from eq_false (by omega), if_false]
   rw [Nat.min_eq_right (by omega)] at key ⊢
   exact key
/-- What is due. -/
def dueF (a : Int) (l : List S78) : List S78 := l.filter fun x => !(decide (x.f2 > a))
theorem insS_l0 (a : Int) (m : Nat) (l : List S78) (hl : l.length ≤ 1048576) : ∀ d j (L : List S78), j + d = l.length → L.length ≤ j → Ev (fun k => spec_PlanDay.l0 k a (m : Int) L l (l.length : Int) (j : Int)) (firstC ((dueF a (l.drop j)).foldl insC L) m, true) := by
 intro d
 induction d with
 | zero =>
  intro j L hj hL
  refine Ev.succ ?_
  simp only [spec_PlanDay.l0, show ((j : Int) < (l.length : Int)) = False from eq_false (by omega), if_false]
  rw [List.drop_of_length_le (by omega)]
  have := insS_l2 L m (by omega) L.length 0 (by omega)
  rw [Nat.zero_min] at this
  exact this
 | succ d ih =>
  intro j L hj hL
  refine Ev.succ ?_
  have hlt : j < l.length := by omega
  have e1 : l.drop j = cat l j :: l.drop (j + 1) := by rw [cat_get l j hlt]; exact List.drop_eq_getElem_cons hlt
  simp only [spec_PlanDay.l0, show ((j : Int) < (l.length : Int)) = True from eq_true (by omega), if_true, nat_nonneg, rdc, wrap_succ (show j < 4611686018427387904 by omega)]
  rw [e1]
  unfold dueF
  by_cases hd : (cat l j).f2 > a
  ·simp only [eq_true hd, if_true]
   rw [List.filter_cons_of_neg (by simp [hd])]
   exact ih (j + 1) L (by omega) (by omega)
  ·simp only [eq_false hd, if_false]
   rw [List.filter_cons_of_pos (by simp [hd]), List.foldl_cons]
   have key := ih (j + 1) (insC L (cat l j)) (by omega) (by rw [insC_length]; omega)
   have k2 := insS_l1 a m l l.length j (by omega) (cat l j) _ L.reverse [] (by rw [List.length_reverse, List.length_nil]; omega) key
   rw [List.reverse_reverse, List.append_nil, List.length_reverse] at k2
   exact k2
def planR (l : List S78) (a m : Int) : List ByteArray × Bool := if cgoodB l && (inB a 0 99999 && inB m 0 20) then (firstC (srtC (dueF a l)) m.toNat, true) else ([], false)
theorem specPlan_ev (l : List S78) (a m : Int) (hl : l.length ≤ 1048576) (hz : CSz l) : Ev (fun k => spec_PlanDay.f k l a m) (planR l a m) := by
 unfold spec_PlanDay.f planR
 have bad : Ev (fun k => spec_PlanDay.j0 k l a m true) (([], false) : List ByteArray × Bool) := by
  refine Ev.succ ?_
  simp only [spec_PlanDay.j0, if_true]
  exact Ev.now _
 refine Ev.bind (rpGood_ev l (by omega) hz) ?_
 rcases Bool.eq_false_or_eq_true (cgoodB l) with hg | hg
 ·simp only [hg, if_true, Bool.true_and, rpDay_eq, Option.bind_some]
  rcases Bool.eq_false_or_eq_true (inB a 0 99999) with h2 | h2
  ·simp only [h2, if_true, Bool.true_and, l1In_eq, Option.bind_some]
   rcases Bool.eq_false_or_eq_true (inB m 0 20) with h3 | h3
   ·simp only [h3, Bool.not_true, if_true]
    have hm : 0 ≤ m := by unfold inB at h3; exact (of_decide_eq_true h3).1
    obtain ⟨n, rfl⟩ : ∃ n : Nat, m = (n : Int) := ⟨m.toNat, by omega⟩
    refine Ev.succ ?_
    simp only [spec_PlanDay.j0, Bool.false_eq_true, if_false, Int.toNat_natCast]
    exact insS_l0 a n l hl l.length 0 [] (by omega) (by simp)
   ·simp only [h3, Bool.not_false, Bool.false_eq_true, if_false]
    exact bad
  ·simp only [h2, Bool.false_and, Bool.false_eq_true, if_false]
   exact bad
 ·simp only [hg, Bool.false_and, Bool.false_eq_true, if_false]
  exact bad
theorem strOfNums_one (x : Int) : (strOfNums [x]).size = 1 := by simp [strOfNums, ByteArray.size]
theorem markText_l0 : ∀ (n : Nat) (a : Int) (s : ByteArray), 0 ≤ a → a.toNat ≤ n → a ≤ 1000000000 → s.size + n ≤ 2000000000 → ∃ r, Ev (fun k => laws_markText.l0 k a s) r := by
 intro n
 induction n with
 | zero =>
  intro a s h0 h1 h2 h3
  refine ⟨(⟨#[109]⟩ : ByteArray) ++ s, Ev.succ ?_⟩
  have h4 : (a > 0) = False := eq_false (by omega)
  have h5 : (1 + s.size ≤ 9223372036854775807) = True := eq_true (by omega)
  simp only [laws_markText.l0, h4, h5, if_true, if_false]
  exact Ev.now _
 | succ n ih =>
  intro a s h0 h1 h2 h3
  by_cases h : a > 0
  ·have hd := Int.tdiv_eq_ediv_of_nonneg (b := 10) h0
   have h7 : Int.tdiv a 10 < a ∧ 0 ≤ Int.tdiv a 10 := by rw [hd]; omega
   have hx : (strOfNums [(wrap64 (48 + Int.tmod a 10)) % 256]).size = 1 := strOfNums_one _
   have h5 : ((strOfNums [(wrap64 (48 + Int.tmod a 10)) % 256]).size + s.size ≤ 9223372036854775807) = True := eq_true (by omega)
   obtain ⟨r, hr⟩ := ih (Int.tdiv a 10) (strOfNums [(wrap64 (48 + Int.tmod a 10)) % 256] ++ s) h7.2 (by omega) (by omega) (by rw [ByteArray.size_append]; omega)
   refine ⟨r, Ev.succ ?_⟩
   simp only [laws_markText.l0, eq_true h, h5, if_true, Option.bind_some, wrap_id (x := Int.tdiv a 10) (by omega) (by omega)]
   exact hr
  ·refine ⟨(⟨#[109]⟩ : ByteArray) ++ s, Ev.succ ?_⟩
   have h5 : (1 + s.size ≤ 9223372036854775807) = True := eq_true (by omega)
   simp only [laws_markText.l0, eq_false h, h5, if_true, if_false]
   exact Ev.now _
theorem markText_some (a : Int) (ha : a ≤ 1000000000) : ∃ r, Ev (fun k => laws_markText.f k a) r := by
 unfold laws_markText.f
 by_cases h : a ≤ 0
 ·simp only [eq_true h, if_true]
  exact ⟨_, Ev.now _⟩
 ·simp only [eq_false h, if_false]
  exact markText_l0 a.toNat a _ (by omega) (Nat.le_refl _) ha (by simp [ByteArray.size]; omega)
/-- The mark's text. -/
noncomputable def mtext (a : Int) : ByteArray := @dite _ (∃ r, Ev (fun k => laws_markText.f k a) r) (Classical.propDecidable _) (fun h => Classical.choose h) (fun _ => ByteArray.empty)
theorem markText_ev (a : Int) (ha : a ≤ 1000000000) : Ev (fun k => laws_markText.f k a) (mtext a) := by
 unfold mtext
 rw [dif_pos (markText_some a ha)]
 exact Classical.choose_spec (markText_some a ha)
noncomputable def cmark (a : Int) (_ : S78) : S78 := ⟨mtext a, a + 1, a + 1 + 1⟩
noncomputable def markCards (a : Int) (l : List S78) : List S78 := markAll cmark (fun _ => 3) a l
theorem markCardS_ev (l : List S78) (a : Int) (h0 : 0 ≤ a) (ha : a + 3 * l.length ≤ 1000000000) : Ev (fun k => laws_markCardS.f k l a) (a + 3 * l.length, markCards a l) := by
 unfold laws_markCardS.f markCards
 have e : a + 3 * (l.length : Int) = markEnd (fun _ => 3) a l := by rw [markEnd_const]; omega
 rw [e]
 refine Ev.mark cmark (fun _ => 3) z78 1000000000 l.length (fun k s a j => laws_markCardS.l0 k s a j) ?_ ?_ l a rfl h0 (by rw [markEnd_const]; omega)
 ·intro s j a r hj hs h0 h1 h
  refine Ev.succ ?_
  have h2 : ((j : Int) < (l.length : Int)) = True := eq_true (by omega)
  have h1 : a + 3 ≤ 1000000000 := h1
  have hg : ∀ v, rd_T78 (s.set j v) (j : Int) = v := by
   intro v
   rw [rdc, cat, List.getD_eq_getElem?_getD, List.getElem?_set_self (by omega)]
   rfl
  simp only [laws_markCardS.l0, hs, h2, if_true, nat_nonneg, Int.toNat_natCast, wrap_succ (show j < 4611686018427387904 by omega), wrap_id (x := a + 1) (by omega) (by omega), wrap_id (x := a + 1 + 1) (by omega) (by omega), wrap_id (x := a + 1 + 1 + 1) (by omega) (by omega), Option.bind_some, hg, List.set_set]
  refine Ev.bind (markText_ev a (by omega)) ?_
  have e3 : a + 1 + 1 + 1 = a + (3 : Nat) := by omega
  rw [e3]
  exact h
 ·intro s a hs
  refine Ev.succ ?_
  simp only [laws_markCardS.l0, hs, Int.lt_irrefl, if_false]
  exact Ev.now _
theorem rdS (l : List ByteArray) (j : Nat) : rdOf ByteArray.empty l (j : Int) = l.getD j ByteArray.empty := by simp [rdOf]
theorem eqStringS_ev (l : List ByteArray) (hl : l.length < 4611686018427387904) : Ev (fun k => laws_eqStringS.f k l l) true := by
 unfold laws_eqStringS.f
 simp only [if_true]
 exact Ev.upto (L := fun k j => laws_eqStringS.l0 k l l (j : Int)) (r := true) (n := l.length)
  (by
   refine Ev.succ ?_
   simp only [laws_eqStringS.l0, Int.lt_irrefl, if_false]
   exact Ev.now _)
  (by
   intro j hj h
   refine Ev.succ ?_
   have h1 : ((j : Int) < (l.length : Int)) = True := eq_true (by omega)
   simp only [laws_eqStringS.l0, h1, if_true, nat_nonneg, wrap_succ (show j < 4611686018427387904 by omega)]
   exact h)
  0 (Nat.zero_le _)
noncomputable def smark (a : Int) (_ : ByteArray) : ByteArray := mtext a
noncomputable def markStrs (a : Int) (l : List ByteArray) : List ByteArray := markAll smark (fun _ => 1) a l
theorem markStringS_ev (l : List ByteArray) (a : Int) (h0 : 0 ≤ a) (ha : a + l.length ≤ 1000000000) : Ev (fun k => laws_markStringS.f k l a) (a + l.length, markStrs a l) := by
 unfold laws_markStringS.f markStrs
 have e : a + (l.length : Int) = markEnd (fun _ => 1) a l := by rw [markEnd_const]; omega
 rw [e]
 refine Ev.mark smark (fun _ => 1) ByteArray.empty 1000000000 l.length (fun k s a j => laws_markStringS.l0 k s a j) ?_ ?_ l a rfl h0 (by rw [markEnd_const]; omega)
 ·intro s j a r hj hs h0 h1 h
  refine Ev.succ ?_
  have h2 : ((j : Int) < (l.length : Int)) = True := eq_true (by omega)
  have h1 : a + 1 ≤ 1000000000 := h1
  simp only [laws_markStringS.l0, hs, h2, if_true, nat_nonneg, Int.toNat_natCast, wrap_succ (show j < 4611686018427387904 by omega), wrap_id (x := a + 1) (by omega) (by omega)]
  refine Ev.bind (markText_ev a (by omega)) ?_
  exact h
 ·intro s a hs
  refine Ev.succ ?_
  simp only [laws_markStringS.l0, hs, Int.lt_irrefl, if_false]
  exact Ev.now _
theorem heldStringS_ev (l : List ByteArray) (a : Int) (h0 : 0 ≤ a) (ha : a + l.length ≤ 1000000000) : Ev (fun k => laws_heldStringS.f k (markStrs a l) a) (a + l.length) := by
 unfold laws_heldStringS.f markStrs
 have e : a + (l.length : Int) = markEnd (fun _ => 1) a l := by rw [markEnd_const]; omega
 rw [e]
 refine Ev.held smark (fun _ => 1) ByteArray.empty 1000000000 l.length (fun k s a j => laws_heldStringS.l0 k s a j) ?_ ?_ l a rfl h0 (by rw [markEnd_const]; omega)
 ·intro s j a y r hj hs hg h0 h1 h
  refine Ev.succ ?_
  have h2 : ((j : Int) < (l.length : Int)) = True := eq_true (by omega)
  have h1 : a + 1 ≤ 1000000000 := h1
  simp only [laws_heldStringS.l0, hs, h2, if_true, nat_nonneg, rdS, hg, wrap_succ (show j < 4611686018427387904 by omega), wrap_id (x := a + 1) (by omega) (by omega)]
  refine Ev.bind (markText_ev a (by omega)) ?_
  simp only [smark, if_true]
  exact h
 ·intro s a hs
  refine Ev.succ ?_
  simp only [laws_heldStringS.l0, hs, Int.lt_irrefl, if_false]
  exact Ev.now _
end Go.Proofs.Ytcpkobahiciadaa.Pure
namespace Go.Proofs.Ytcpkobahiciadaa.Pure
open Go.RowKit Go.Proofs.Ytcpkobahiciadaa.Q Go.Proofs.YtcpkobahiciadaaW.PrintWords Go.Proofs.YtcpkobahiciadaaW.PrintLast

theorem cloneCard_eq (l : List S78) (hl : l.length ≤ 1048576) : slices_Clone_impl_Card.f l = some l := by
 unfold slices_Clone_impl_Card.f
 simp only [Option.bind_some, List.length_nil, Nat.zero_add, List.nil_append]
 rw [if_pos (by omega)]
theorem insI_l2 (S : List S78) (hS : S.length ≤ 20) (q : Nat) (hq : q ≤ S.length) : ∀ d j, j + d = q → Ev (fun k => impl_PlanDay.l0 k S (firstC S j) (q : Int) (j : Int)) (firstC S q, true) := by
 intro d
 induction d with
 | zero =>
  intro j hj
  obtain rfl : j = q := by omega
  refine Ev.succ ?_
  simp only [impl_PlanDay.l0, Int.lt_irrefl, if_false]
  exact Ev.now _
 | succ d ih =>
  intro j hj
  have hlt : j < S.length := by omega
  have hf : (firstC S j).length ≤ 20 := by unfold firstC; rw [List.length_map, List.length_take]; omega
  refine Ev.succ ?_
  simp only [impl_PlanDay.l0, show ((j : Int) < (q : Int)) = True from eq_true (by omega), show ((j : Int) < (S.length : Int)) = True from eq_true (by omega), show ((firstC S j).length < 8796093022208) = True from eq_true (by omega), if_true, nat_nonneg, rdc, wrap_succ (show j < 4611686018427387904 by omega)]
  have e : firstC S (j + 1) = firstC S j ++ [(cat S j).f0] := by
   unfold firstC
   rw [List.take_succ_eq_append_getElem hlt, List.map_append, cat_get S j hlt]
   rfl
  rw [← e]
  exact ih (j + 1) (by omega)
theorem mn_nat (a b : Nat) : mn (a : Int) (b : Int) = ((min a b : Nat) : Int) := by
 unfold mn
 split <;> omega
theorem firstC_min (S : List S78) (n : Nat) : firstC S (min n S.length) = firstC S n := by
 unfold firstC
 congr 1
 by_cases h : n ≤ S.length
 ·rw [Nat.min_eq_left h]
 ·rw [Nat.min_eq_right (by omega), List.take_of_length_le (Nat.le_refl _), List.take_of_length_le (by omega)]
theorem implPlan_ev (l : List S78) (a m : Int) (hl : l.length ≤ 1048576) (hz : CSz l) : Ev (fun k => impl_PlanDay.f k l a m) (planR l a m) := by
 unfold impl_PlanDay.f planR
 have bad : Ev (fun k => impl_PlanDay.j0 k l m true a) (([], false) : List ByteArray × Bool) := by
  refine Ev.succ ?_
  simp only [impl_PlanDay.j0, if_true]
  exact Ev.now _
 refine Ev.bind (areCards_ev l (by omega) hz) ?_
 rcases Bool.eq_false_or_eq_true (cgoodB l) with hg | hg
 ·simp only [hg, if_true, Bool.true_and, isFrame_eq, Option.bind_some]
  rcases Bool.eq_false_or_eq_true (inB a 0 99999) with h2 | h2
  ·simp only [h2, if_true, Bool.true_and, within_eq, Option.bind_some]
   rcases Bool.eq_false_or_eq_true (inB m 0 20) with h3 | h3
   ·simp only [h3, Bool.not_true, if_true]
    have hm : 0 ≤ m := by unfold inB at h3; exact (of_decide_eq_true h3).1
    obtain ⟨n, rfl⟩ : ∃ n : Nat, m = (n : Int) := ⟨m.toNat, by omega⟩
    obtain ⟨g1, g2, g3⟩ := (cgood_iff l).1 hg
    have hF : (dueF a l).length ≤ 20 := Nat.le_trans (List.length_filter_le _ _) g3
    have hN : ∀ s, s ∈ dueF a l → cN s := fun s hs => cN_of (g1 s (List.mem_filter.1 hs).1)
    have hS : (srtC (dueF a l)).length = (dueF a l).length := by unfold srtC; rw [srt_length, List.length_nil, Nat.zero_add]
    refine Ev.succ ?_
    simp only [impl_PlanDay.j0, Bool.false_eq_true, if_false, Int.toNat_natCast, cloneCard_eq l hl, Option.bind_some, slices_DeleteFunc_impl_Card.f]
    refine Ev.bind (sortC_ev (dueF a l) hF hN) ?_
    show Ev (fun k => if 0 ≤ mn (n : Int) ((dueF a l).length : Int) then (if mn (n : Int) ((dueF a l).length : Int) ≤ ((dueF a l).length : Int) then impl_PlanDay.l0 k (srtC (dueF a l)) [] (((srtC (dueF a l)).take (mn (n : Int) ((dueF a l).length : Int)).toNat).length : Int) 0 else none) else none) _
    rw [mn_nat]
    simp only [nat_nonneg, if_true, show (((min n (dueF a l).length : Nat) : Int) ≤ ((dueF a l).length : Int)) = True from eq_true (by omega), Int.toNat_natCast]
    have e1 : ((srtC (dueF a l)).take (min n (dueF a l).length)).length = min n (dueF a l).length := by rw [List.length_take, hS]; omega
    rw [e1]
    have key := insI_l2 (srtC (dueF a l)) (by omega) (min n (dueF a l).length) (by omega) (min n (dueF a l).length) 0 (by omega)
    rw [← hS, firstC_min] at key
    rw [← hS]
    exact key
   ·simp only [h3, Bool.not_false, Bool.false_eq_true, if_false]
    exact bad
  ·simp only [h2, Bool.false_and, Bool.false_eq_true, if_false]
   exact bad
 ·simp only [hg, Bool.false_and, Bool.false_eq_true, if_false]
  exact bad
theorem planR_length (l : List S78) (a m : Int) : (planR l a m).1.length ≤ l.length := by
 unfold planR
 split
 ·unfold firstC srtC
  rw [List.length_map, List.length_take, srt_length, List.length_nil, Nat.zero_add]
  exact Nat.le_trans (Nat.min_le_right _ _) (List.length_filter_le _ _)
 ·simp

theorem FnExactPlanDay : laws_FnExactPlanDay.Pure := by
 intro l a m h hz _ _
 obtain ⟨r, hb, hr⟩ := szCardS_ev l h hz
 refine Ev.rounds ?_
 unfold laws_FnExactPlanDay.f
 refine Ev.bind hr ?_
 by_cases h0 : r < 0
 ·simp only [eq_true h0, if_true]
  exact Ev.now _
 simp only [eq_false h0, if_false]
 have hb' := hb (by omega)
 have hk : (l.map cconv).length ≤ 1048576 := by rw [List.length_map]; exact hb'
 have hm : (l.map cconv).length < 4611686018427387904 := by omega
 have hs := csz_map l hz
 have hle := planR_length (l.map cconv) a m
 have hi : (planR (l.map cconv) a m).1.length < 4611686018427387904 := by omega
 refine Ev.bind (toCardS_ev l h) ?_
 refine Ev.bind (specPlan_ev _ a m hk hs) ?_
 refine Ev.bind (toCardS_ev l h) ?_
 refine Ev.bind (implPlan_ev _ a m hk hs) ?_
 refine Ev.bind (eqStringS_ev _ hi) ?_
 simp only [bne_self_eq_false, if_true]
 refine Ev.succ ?_
 simp only [laws_FnExactPlanDay.j0]
 refine Ev.bind (toCardS_ev l h) ?_
 refine Ev.bind (eqCardS_ev _ hm) ?_
 simp only [if_true]
 refine Ev.bind (markCardS_ev _ 1 (by decide) (by omega)) ?_
 simp only [show (1 + 3 * ((l.map cconv).length : Int) < 0) = False from eq_false (by omega), if_false]
 refine Ev.bind (eqStringS_ev _ hi) ?_
 simp only [bne_self_eq_false, if_true]
 refine Ev.succ ?_
 simp only [laws_FnExactPlanDay.j1]
 refine Ev.bind (markStringS_ev _ 1 (by decide) (by omega)) ?_
 refine Ev.bind (heldStringS_ev _ 1 (by decide) (by omega)) ?_
 simp only [show (1 + ((planR (l.map cconv) a m).1.length : Int) < 0) = False from eq_false (by omega), if_false, if_true]
 refine Ev.bind (toCardS_ev l h) ?_
 refine Ev.bind (implPlan_ev _ a m hk hs) ?_
 refine Ev.bind (eqStringS_ev _ hi) ?_
 simp only [bne_self_eq_false, if_true]
 refine Ev.succ ?_
 simp only [laws_FnExactPlanDay.j2]
 refine Ev.bind (heldStringS_ev _ 1 (by decide) (by omega)) ?_
 simp only [show (1 + ((planR (l.map cconv) a m).1.length : Int) < 0) = False from eq_false (by omega), if_false, if_true]
 exact Ev.now _
end Go.Proofs.Ytcpkobahiciadaa.Pure
