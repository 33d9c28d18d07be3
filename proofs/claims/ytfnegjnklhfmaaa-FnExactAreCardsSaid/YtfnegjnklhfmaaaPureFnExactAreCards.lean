/- For every list of cards, the program's AreCards returns what the reference's AreCards returns, and leaves the list alone. No condition. -/
import Derived.Test.YtfnegjnklhfmaaaQBounds
import Derived.Test.YtfnegjnklhfmaaaQImplAreCards
import Derived.Test.YtfnegjnklhfmaaaQImplHasOnly
import Derived.Test.YtfnegjnklhfmaaaQImplIsCard
import Derived.Test.YtfnegjnklhfmaaaQImplIsFrame
import Derived.Test.YtfnegjnklhfmaaaQImplIsGloss
import Derived.Test.YtfnegjnklhfmaaaQImplIsWordOf
import Derived.Test.YtfnegjnklhfmaaaQImplWithin
import Derived.Test.YtfnegjnklhfmaaaQLawsEqCard
import Derived.Test.YtfnegjnklhfmaaaQLawsEqCardS
import Derived.Test.YtfnegjnklhfmaaaQLawsFnExactAreCards
import Derived.Test.YtfnegjnklhfmaaaQLawsSzCard
import Derived.Test.YtfnegjnklhfmaaaQLawsSzCardS
import Derived.Test.YtfnegjnklhfmaaaQLawsToCard
import Derived.Test.YtfnegjnklhfmaaaQLawsToCardS
import Derived.Test.YtfnegjnklhfmaaaQSpecAreCards
import Derived.Test.YtfnegjnklhfmaaaQSpecFsWord
import Derived.Test.YtfnegjnklhfmaaaQSpecL1In
import Derived.Test.YtfnegjnklhfmaaaQSpecRpDay
import Derived.Test.YtfnegjnklhfmaaaQSpecRpGood
import Derived.Test.YtfnegjnklhfmaaaQSpecRpOne
import Derived.Test.YtfnegjnklhfmaaaQStringsIndexByte
import Derived.Test.YtfnegjnklhfmaaaQ0
import Derived.Test.YtfnegjnklhfmaaaWWords
import Derived.Lib.Bytealg
set_option linter.unusedVariables false
set_option linter.unusedSimpArgs false
namespace Go.Proofs.Ytfnegjnklhfmaaa.Pure
open Go.RowKit Go.Proofs.Ytfnegjnklhfmaaa.Q Go.Proofs.YtfnegjnklhfmaaaW.PrintLast Go.Proofs.YtfnegjnklhfmaaaW.PrintWords
theorem Ev.succ {α : Type} {g : Nat → Option α} {r : α} (h : Ev (fun k => g (k + 1)) r) : Ev g r := Ev.step (fun _ => rfl) h
theorem Ev.k {α : Type} {g : Nat → Option α} {o : Option α} {r : α} (hg : ∀ k, g k = o) (h : o = some r) : Ev g r := ⟨0, fun k _ => (hg k).trans h⟩
theorem Ev.eq {α : Type} {g : Nat → Option α} {r r' : α} (h : Ev g r) (e : r = r') : Ev g r' := e ▸ h
/-- From round i up to round n. -/
theorem Ev.upto {β : Type} {L : Nat → Nat → Option β} {r : β} {n : Nat} (hend : Ev (fun k => L k n) r)
    (hstep : ∀ j, j < n → Ev (fun k => L k (j + 1)) r → Ev (fun k => L k j) r) : ∀ i, i ≤ n → Ev (fun k => L k i) r := by
  intro i hi
  obtain ⟨d, hd⟩ : ∃ d, n = i + d := ⟨n - i, by omega⟩
  induction d generalizing i with
  | zero => simp at hd; subst hd; exact hend
  | succ d ih => exact hstep i (by omega) (ih (i + 1) (by omega) (by omega))
/-- A loop that ends early where P fails. -/
theorem Ev.all {β : Type} {L : Nat → Nat → Option β} {P : Nat → Bool} {n : Nat} {a b : β} (hend : Ev (fun k => L k n) a)
    (hyes : ∀ j r, j < n → P j = true → Ev (fun k => L k (j + 1)) r → Ev (fun k => L k j) r) (hno : ∀ j, j < n → P j = false → Ev (fun k => L k j) b) :
    ∀ i, i ≤ n → Ev (fun k => L k i) (if (List.range' i (n - i)).all P then a else b) := by
  intro i hi
  obtain ⟨d, hd⟩ : ∃ d, n = i + d := ⟨n - i, by omega⟩
  induction d generalizing i with
  | zero => simp at hd; subst hd; simpa using hend
  | succ d ih =>
    have h1 : n - i = (n - (i + 1)) + 1 := by omega
    rw [h1, List.range'_succ]
    simp only [List.all_cons]
    rcases Bool.eq_false_or_eq_true (P i) with hP | hP
    · simp only [hP, Bool.true_and]
      exact hyes i _ (by omega) hP (ih (i + 1) (by omega) (by omega))
    · simpa [hP] using hno i (by omega) hP
theorem Ev.all0 {β : Type} {L : Nat → Nat → Option β} {P : Nat → Bool} {n : Nat} {a b : β} (hend : Ev (fun k => L k n) a)
    (hyes : ∀ j r, j < n → P j = true → Ev (fun k => L k (j + 1)) r → Ev (fun k => L k j) r) (hno : ∀ j, j < n → P j = false → Ev (fun k => L k j) b) :
    Ev (fun k => L k 0) (if (List.range n).all P then a else b) := by
  have := Ev.all hend hyes hno 0 (Nat.zero_le _)
  rwa [Nat.sub_zero, ← List.range_eq_range'] at this

theorem wrap_id {x : Int} (h0 : -9223372036854775808 ≤ x) (h1 : x ≤ 9223372036854775807) : wrap64 x = x := by
  unfold wrap64
  omega
theorem wrap_succ {n : Nat} (h : n < 4611686018427387904) : wrap64 ((n : Int) + 1) = ((n + 1 : Nat) : Int) := by
  rw [wrap_id (by omega) (by omega)]
  omega
theorem wrap_pred {n : Nat} (h0 : 0 < n) (h : n < 4611686018427387904) : wrap64 ((n : Int) - 1) = ((n - 1 : Nat) : Int) := by
  rw [wrap_id (by omega) (by omega)]
  omega
theorem nat_nonneg (n : Nat) : (0 ≤ (n : Int)) = True := eq_true (Int.natCast_nonneg n)
theorem getD_map {α β : Type} (f : α → β) (l : List α) (i : Nat) (d : α) (e : β) (h : i < l.length) : (l.map f).getD i e = f (l.getD i d) := by
  simp [List.getD_eq_getElem?_getD, List.getElem?_eq_getElem h]

/-- A copy, element by element, into a row that was made. -/
theorem Ev.copy {α β : Type} (f : α → β) (l : List α) (za : α) (zb : β) (L : Nat → List β → Int → Option (List β))
    (hstep : ∀ (j : Nat) (s r : List β), j < l.length → s.length = l.length → Ev (fun k => L k (s.set j (f (l.getD j za))) ((j + 1 : Nat) : Int)) r → Ev (fun k => L k s (j : Int)) r)
    (hend : ∀ s : List β, s.length = l.length → Ev (fun k => L k s (l.length : Int)) s) : Ev (fun k => L k (List.replicate l.length zb) 0) (l.map f) := by
  have key := Ev.upto (L := fun k j => L k ((l.map f).take j ++ List.replicate (l.length - j) zb) (j : Int)) (r := l.map f) (n := l.length)
    (by
      have h := hend ((l.map f).take l.length ++ List.replicate (l.length - l.length) zb) (by simp)
      refine Ev.eq h ?_
      rw [Nat.sub_self, List.replicate_zero, List.append_nil, List.take_of_length_le (by simp)])
    (by
      intro j hj h
      have hlen : ((l.map f).take j ++ List.replicate (l.length - j) zb).length = l.length := by simp; omega
      refine hstep j _ _ hj hlen ?_
      have e : ((l.map f).take j ++ List.replicate (l.length - j) zb).set j (f (l.getD j za)) = (l.map f).take (j + 1) ++ List.replicate (l.length - (j + 1)) zb := by
        have e1 : l.length - j = (l.length - (j + 1)) + 1 := by omega
        rw [e1, List.replicate_succ, List.set_append_right _ _ (by simp; omega)]
        have e2 : j - ((l.map f).take j).length = 0 := by simp; omega
        rw [e2, List.set_cons_zero, List.take_succ_eq_append_getElem (by simpa using hj)]
        simp [List.getD_eq_getElem?_getD, List.getElem?_eq_getElem hj]
      rw [e]
      exact h)
    0 (Nat.zero_le _)
  simpa using key
/-- What is left of a size, or that it was passed. -/
theorem Ev.sz {L : Nat → Nat → Int → Option Int} {n : Nat}
    (hstep : ∀ (j : Nat) (a : Int), j < n → 0 ≤ a → a ≤ 1048576 → (∃ a', 0 ≤ a' ∧ a' ≤ a ∧ ∀ r, Ev (fun k => L k (j + 1) a') r → Ev (fun k => L k j a) r) ∨ Ev (fun k => L k j a) (-1))
    (hend : ∀ a : Int, 0 ≤ a → a ≤ 1048576 → Ev (fun k => L k n a) a) :
    ∀ (j : Nat), j ≤ n → ∀ a : Int, 0 ≤ a → a ≤ 1048576 → ∃ r, r ≤ a ∧ Ev (fun k => L k j a) r := by
  intro j hj
  obtain ⟨d, hd⟩ : ∃ d, n = j + d := ⟨n - j, by omega⟩
  induction d generalizing j with
  | zero => simp at hd; subst hd; exact fun a h0 h1 => ⟨a, Int.le_refl _, hend a h0 h1⟩
  | succ d ih =>
    intro a h0 h1
    rcases hstep j a (by omega) h0 h1 with ⟨a', h2, h3, h4⟩ | h5
    · obtain ⟨r, h6, h7⟩ := ih (j + 1) (by omega) (by omega) a' h2 (by omega)
      exact ⟨r, by omega, h4 r h7⟩
    · exact ⟨-1, by omega, h5⟩
def inB (a b c : Int) : Bool := decide (b ≤ a ∧ a ≤ c)
theorem l1In_eq (a b c : Int) : spec_l1In.f a b c = some (inB a b c) := by
  unfold spec_l1In.f inB
  split <;> simp <;> omega
theorem within_eq (a b c : Int) : impl_within.f a b c = some (inB a b c) := by
  unfold impl_within.f inB
  split <;> simp <;> omega
def capAt (s : ByteArray) (j : Nat) : Bool := decide (65 ≤ bt s j ∧ bt s j ≤ 90)
def glossB (s : ByteArray) : Bool := inB s.size 1 8 && (List.range s.size).all (capAt s)
def caps : ByteArray := ⟨#[65, 66, 67, 68, 69, 70, 71, 72, 73, 74, 75, 76, 77, 78, 79, 80, 81, 82, 83, 84, 85, 86, 87, 88, 89, 90]⟩
theorem caps_all : ((List.range 256).all fun n => decide (Lib.indexByte caps.data.toList n.toUInt8 < 0) == !(decide (65 ≤ n ∧ n ≤ 90))) = true := by decide +kernel
theorem caps_index (b : Int) (h0 : 0 ≤ b) (h1 : b ≤ 255) : (Lib.indexByte caps.data.toList b.toNat.toUInt8 < 0) ↔ ¬ (65 ≤ b ∧ b ≤ 90) := by
  have h := List.all_eq_true.1 caps_all b.toNat (List.mem_range.2 (by omega))
  simp only [beq_iff_eq] at h
  by_cases hc : 65 ≤ b ∧ b ≤ 90
  · have h2 : decide (65 ≤ b.toNat ∧ b.toNat ≤ 90) = true := decide_eq_true (by omega)
    rw [h2] at h
    exact ⟨fun h3 => absurd h3 (of_decide_eq_false h), fun h3 => absurd hc h3⟩
  · have h2 : decide (65 ≤ b.toNat ∧ b.toNat ≤ 90) = false := decide_eq_false (by omega)
    rw [h2] at h
    exact ⟨fun _ => hc, fun _ => of_decide_eq_true h⟩
theorem hasOnly_ev (s : ByteArray) (hs : s.size < 4611686018427387904) : Ev (fun k => impl_hasOnly.f k s caps) ((List.range s.size).all (capAt s)) := by
  unfold impl_hasOnly.f
  refine Ev.eq (Ev.all0 (L := fun k j => impl_hasOnly.l0 k s caps (s.size : Int) (j : Int)) (P := capAt s) (n := s.size) (a := true) (b := false) ?_ ?_ ?_) (by split <;> simp_all)
  · refine Ev.succ ?_
    simp only [impl_hasOnly.l0, Int.lt_irrefl, if_false]
    exact Ev.now _
  · intro j r hj hP h
    refine Ev.succ ?_
    have h1 : ((j : Int) < (s.size : Int)) = True := eq_true (by omega)
    have hb := bt_range s (j : Int)
    have h2 : (Lib.indexByte caps.data.toList (bt s (j : Int)).toNat.toUInt8 < 0) = False := eq_false (fun hc => (caps_index _ hb.1 hb.2).1 hc (of_decide_eq_true hP))
    simp only [impl_hasOnly.l0, strings_IndexByte.f, Option.bind_some, h1, if_true, nat_nonneg, h2, if_false, wrap_succ (show j < 4611686018427387904 by omega)]
    exact h
  · intro j hj hP
    refine Ev.succ ?_
    have h1 : ((j : Int) < (s.size : Int)) = True := eq_true (by omega)
    have hb := bt_range s (j : Int)
    have h2 : (Lib.indexByte caps.data.toList (bt s (j : Int)).toNat.toUInt8 < 0) = True := eq_true ((caps_index _ hb.1 hb.2).2 (of_decide_eq_false hP))
    simp only [impl_hasOnly.l0, strings_IndexByte.f, Option.bind_some, h1, if_true, nat_nonneg, h2]
    exact Ev.now _
theorem isGloss_ev (s : ByteArray) (hs : s.size < 4611686018427387904) : Ev (fun k => impl_IsGloss.f k s) (glossB s) := by
  unfold impl_IsGloss.f impl_isWordOf.f glossB
  refine Ev.bind (a := inB s.size 1 8 && (List.range s.size).all (capAt s)) ?_ (Ev.now _)
  simp only [within_eq, Option.bind_some]
  rcases Bool.eq_false_or_eq_true (inB s.size 1 8) with h | h
  · simp only [h, if_true, Bool.true_and]
    exact Ev.bind (hasOnly_ev s hs) (Ev.now _)
  · simp only [h]
    exact Ev.now _
theorem fsWord_ev (s : ByteArray) (hs : s.size < 4611686018427387904) : Ev (fun k => spec_fsWord.f k s) (glossB s) := by
  unfold spec_fsWord.f
  refine Ev.eq (Ev.all0 (L := fun k j => spec_fsWord.l0 k s (j : Int)) (P := capAt s) (n := s.size) (a := inB s.size 1 8) (b := false) ?_ ?_ ?_) (by unfold glossB; split <;> simp_all)
  · refine Ev.succ ?_
    simp only [spec_fsWord.l0, Int.lt_irrefl, if_false, l1In_eq, Option.bind_some]
    exact Ev.now _
  · intro j r hj hP h
    refine Ev.succ ?_
    have h1 : ((j : Int) < (s.size : Int)) = True := eq_true (by omega)
    have hP' := of_decide_eq_true hP
    simp only [spec_fsWord.l0, h1, if_true, nat_nonneg, show (bt s (j : Int) < 65) = False from eq_false (by omega), show (bt s (j : Int) > 90) = False from eq_false (by omega), if_false, wrap_succ (show j < 4611686018427387904 by omega)]
    exact h
  · intro j hj hP
    refine Ev.succ ?_
    have h1 : ((j : Int) < (s.size : Int)) = True := eq_true (by omega)
    have hP' := of_decide_eq_false hP
    simp only [spec_fsWord.l0, h1, if_true, nat_nonneg]
    by_cases h2 : bt s (j : Int) < 65
    · simp only [eq_true h2, if_true]
      exact Ev.now _
    · simp only [eq_false h2, if_false, show (bt s (j : Int) > 90) = True from eq_true (by omega), if_true]
      exact Ev.now _
def cardB (g : ByteArray) (b d : Int) : Bool := glossB g && (inB b 0 5 && inB d 0 99999)
theorem isFrame_eq (d : Int) : impl_isFrame.f d = some (inB d 0 99999) := by
  unfold impl_isFrame.f
  simp only [within_eq, Option.bind_some]
theorem rpDay_eq (d : Int) : spec_rpDay.f d = some (inB d 0 99999) := by
  unfold spec_rpDay.f
  simp only [l1In_eq, Option.bind_some]
theorem isCard_ev (g : ByteArray) (b d : Int) (hs : g.size < 4611686018427387904) : Ev (fun k => impl_isCard.f k g b d) (cardB g b d) := by
  unfold impl_isCard.f cardB
  refine Ev.bind (isGloss_ev g hs) ?_
  simp only [within_eq, isFrame_eq, Option.bind_some]
  rcases Bool.eq_false_or_eq_true (glossB g) with h | h <;> rcases Bool.eq_false_or_eq_true (inB b 0 5) with h2 | h2 <;> simp only [h, h2] <;> exact Ev.now _
theorem rpOne_ev (g : ByteArray) (b d : Int) (hs : g.size < 4611686018427387904) : Ev (fun k => spec_rpOne.f k g b d) (cardB g b d) := by
  unfold spec_rpOne.f cardB
  refine Ev.bind (fsWord_ev g hs) ?_
  simp only [l1In_eq, rpDay_eq, Option.bind_some]
  rcases Bool.eq_false_or_eq_true (glossB g) with h | h <;> rcases Bool.eq_false_or_eq_true (inB b 0 5) with h2 | h2 <;> simp only [h, h2] <;> exact Ev.now _
def cat (l : List S58) (j : Nat) : S58 := l.getD j z58
theorem rdc (l : List S58) (j : Nat) : rd_T58 l (j : Int) = cat l j := by simp [rd_T58, cat]
theorem rdcL (l : List S55) (j : Nat) : rd_T55 l (j : Int) = l.getD j z55 := by simp [rd_T55]
def cOk (x : S58) : Bool := cardB x.f0 x.f1 x.f2
def cAt (l : List S58) (i : Nat) : Bool := cOk (cat l i) && (decide (i = 0) || Op.bytesLess (cat l (i - 1)).f0.toList (cat l i).f0.toList)
def cgoodB (l : List S58) : Bool := if (List.range l.length).all (cAt l) then decide (l.length ≤ 20) else false
/-- Every text of the cards is short enough. -/
def CSz (l : List S58) : Prop := ∀ i, i < l.length → (cat l i).f0.size ≤ 140737488351232

theorem rpGood_ev (l : List S58) (hl : l.length < 4611686018427387904) (hz : CSz l) : Ev (fun k => spec_rpGood.f k l) (cgoodB l) := by
  unfold spec_rpGood.f cgoodB
  refine Ev.all0 (L := fun k j => spec_rpGood.l0 k l l (l.length : Int) (j : Int)) (P := cAt l) (n := l.length) ?_ ?_ ?_
  · refine Ev.succ ?_
    simp only [spec_rpGood.l0, Int.lt_irrefl, if_false]
    refine Ev.eq (Ev.now _) ?_
    rw [decide_eq_decide]
    omega
  · intro j r hj hP h
    refine Ev.succ ?_
    have h1 : ((j : Int) < (l.length : Int)) = True := eq_true (by omega)
    have hsz := hz j hj
    simp only [cAt, Bool.and_eq_true, Bool.or_eq_true, decide_eq_true_eq, cOk] at hP
    simp only [spec_rpGood.l0, h1, if_true, nat_nonneg, rdc, wrap_succ (show j < 4611686018427387904 by omega)]
    refine Ev.bind (Ev.eq (rpOne_ev (cat l j).f0 (cat l j).f1 (cat l j).f2 (by omega)) hP.1) ?_
    by_cases h0 : j = 0
    · subst h0
      exact h
    · have h2 : ((j : Int) > 0) = True := eq_true (by omega)
      have h3 : (((j - 1 : Nat) : Int) < (l.length : Int)) = True := eq_true (by omega)
      have h4 := hP.2.resolve_left h0
      simp only [h2, if_true, wrap_pred (show 0 < j by omega) (show j < 4611686018427387904 by omega), nat_nonneg, h3, rdc, h4]
      exact h
  · intro j hj hP
    refine Ev.succ ?_
    have h1 : ((j : Int) < (l.length : Int)) = True := eq_true (by omega)
    have hsz := hz j hj
    simp only [cAt, cOk] at hP
    simp only [spec_rpGood.l0, h1, if_true, nat_nonneg, rdc, wrap_succ (show j < 4611686018427387904 by omega)]
    refine Ev.bind (rpOne_ev (cat l j).f0 (cat l j).f1 (cat l j).f2 (by omega)) ?_
    rcases Bool.eq_false_or_eq_true (cardB (cat l j).f0 (cat l j).f1 (cat l j).f2) with hk | hk
    · simp only [hk, if_true]
      simp only [hk, Bool.true_and, Bool.or_eq_false_iff, decide_eq_false_iff_not] at hP
      have h2 : ((j : Int) > 0) = True := eq_true (by omega)
      have h3 : (((j - 1 : Nat) : Int) < (l.length : Int)) = True := eq_true (by omega)
      simp only [h2, if_true, wrap_pred (show 0 < j by omega) (show j < 4611686018427387904 by omega), nat_nonneg, h3, rdc, hP.2]
      exact Ev.now _
    · simp only [hk]
      exact Ev.now _
theorem areCards_ev (l : List S58) (hl : l.length < 4611686018427387904) (hz : CSz l) : Ev (fun k => impl_AreCards.f k l) (cgoodB l) := by
  unfold impl_AreCards.f cgoodB
  refine Ev.all0 (L := fun k j => impl_AreCards.l0 k l l (l.length : Int) (j : Int)) (P := cAt l) (n := l.length) ?_ ?_ ?_
  · refine Ev.succ ?_
    simp only [impl_AreCards.l0, Int.lt_irrefl, if_false]
    refine Ev.eq (Ev.now _) ?_
    rw [decide_eq_decide]
    omega
  · intro j r hj hP h
    refine Ev.succ ?_
    have h1 : ((j : Int) < (l.length : Int)) = True := eq_true (by omega)
    have hsz := hz j hj
    simp only [cAt, Bool.and_eq_true, Bool.or_eq_true, decide_eq_true_eq, cOk] at hP
    simp only [impl_AreCards.l0, h1, if_true, nat_nonneg, rdc, wrap_succ (show j < 4611686018427387904 by omega)]
    refine Ev.bind (Ev.eq (isCard_ev (cat l j).f0 (cat l j).f1 (cat l j).f2 (by omega)) hP.1) ?_
    by_cases h0 : j = 0
    · subst h0
      exact h
    · have h2 : ((j : Int) > 0) = True := eq_true (by omega)
      have h3 : (((j - 1 : Nat) : Int) < (l.length : Int)) = True := eq_true (by omega)
      have h4 := hP.2.resolve_left h0
      simp only [h2, if_true, wrap_pred (show 0 < j by omega) (show j < 4611686018427387904 by omega), nat_nonneg, h3, rdc, h4]
      exact h
  · intro j hj hP
    refine Ev.succ ?_
    have h1 : ((j : Int) < (l.length : Int)) = True := eq_true (by omega)
    have hsz := hz j hj
    simp only [cAt, cOk] at hP
    simp only [impl_AreCards.l0, h1, if_true, nat_nonneg, rdc, wrap_succ (show j < 4611686018427387904 by omega)]
    refine Ev.bind (isCard_ev (cat l j).f0 (cat l j).f1 (cat l j).f2 (by omega)) ?_
    rcases Bool.eq_false_or_eq_true (cardB (cat l j).f0 (cat l j).f1 (cat l j).f2) with hk | hk
    · simp only [hk, if_true]
      simp only [hk, Bool.true_and, Bool.or_eq_false_iff, decide_eq_false_iff_not] at hP
      have h2 : ((j : Int) > 0) = True := eq_true (by omega)
      have h3 : (((j - 1 : Nat) : Int) < (l.length : Int)) = True := eq_true (by omega)
      simp only [h2, if_true, wrap_pred (show 0 < j by omega) (show j < 4611686018427387904 by omega), nat_nonneg, h3, rdc, hP.2]
      exact Ev.now _
    · simp only [hk]
      exact Ev.now _

def cconv (x : S55) : S58 := ⟨x.f0, x.f1, x.f2⟩
theorem toCardS_ev (l : List S55) (hl : l.length * 32 ≤ 140737488351232) : Ev (fun k => laws_toCardS.f k l) (l.map cconv) := by
  unfold laws_toCardS.f
  simp only [nat_nonneg, if_true, Int.toNat_natCast, show (l.length ≤ 8796093022208) = True from eq_true (by omega)]
  refine Ev.copy cconv l z55 z58 (fun k s j => laws_toCardS.l0 k l s j) ?_ ?_
  · intro j s r hj hs h
    refine Ev.succ ?_
    have h1 : ((j : Int) < (l.length : Int)) = True := eq_true (by omega)
    simp only [laws_toCardS.l0, laws_toCard.f, Option.bind_some, h1, if_true, nat_nonneg, hs, Int.toNat_natCast, wrap_succ (show j < 4611686018427387904 by omega), rdcL]
    exact h
  · intro s hs
    refine Ev.succ ?_
    simp only [laws_toCardS.l0, Int.lt_irrefl, if_false]
    exact Ev.now _
theorem eqCardS_ev (l : List S58) (hl : l.length < 4611686018427387904) : Ev (fun k => laws_eqCardS.f k l l) true := by
  unfold laws_eqCardS.f
  simp only [if_true]
  exact Ev.upto (L := fun k j => laws_eqCardS.l0 k l l (j : Int)) (r := true) (n := l.length)
    (by
      refine Ev.succ ?_
      simp only [laws_eqCardS.l0, Int.lt_irrefl, if_false]
      exact Ev.now _)
    (by
      intro j hj h
      refine Ev.succ ?_
      have h1 : ((j : Int) < (l.length : Int)) = True := eq_true (by omega)
      simp only [laws_eqCardS.l0, laws_eqCard.f, Option.bind_some, h1, if_true, nat_nonneg, wrap_succ (show j < 4611686018427387904 by omega)]
      exact h)
    0 (Nat.zero_le _)
theorem szCardS_ev (l : List S55) (hl : l.length * 32 ≤ 140737488351232) (hz : ∀ y, y ∈ l → B55 y) : ∃ r, (0 ≤ r → l.length ≤ 1048576) ∧ Ev (fun k => laws_szCardS.f k l 1048576) r := by
  unfold laws_szCardS.f
  rw [wrap_id (x := 1048576 - (l.length : Int)) (by omega) (by omega)]
  by_cases h0 : (1048576 : Int) - l.length < 0
  · refine ⟨-1, fun h => absurd h (by decide), ?_⟩
    simp only [eq_true h0, if_true]
    exact Ev.now _
  · obtain ⟨r, _, hr⟩ := Ev.sz (L := fun k j a => laws_szCardS.l0 k l a (j : Int)) (n := l.length)
      (by
        intro j a hj ha0 ha1
        have h1 : ((j : Int) < (l.length : Int)) = True := eq_true (by omega)
        have hy := hz (l.getD j z55) (by rw [List.getD_eq_getElem?_getD, List.getElem?_eq_getElem hj]; exact List.getElem_mem hj)
        have hs : (l.getD j z55).f0.size ≤ 140737488351232 := hy.1
        by_cases hc : a - ((l.getD j z55).f0.size : Int) < 0
        · refine .inr (Ev.succ ?_)
          simp only [laws_szCardS.l0, laws_szCard.f, h1, if_true, nat_nonneg, rdcL, wrap_id (x := a - ((l.getD j z55).f0.size : Int)) (by omega) (by omega), eq_true hc, Option.bind_some]
          exact Ev.now _
        · refine .inl ⟨a - ((l.getD j z55).f0.size : Int), by omega, by omega, fun r h => Ev.succ ?_⟩
          simp only [laws_szCardS.l0, laws_szCard.f, h1, if_true, nat_nonneg, rdcL, wrap_id (x := a - ((l.getD j z55).f0.size : Int)) (by omega) (by omega), eq_false hc, if_false, Option.bind_some, wrap_succ (show j < 4611686018427387904 by omega)]
          exact h)
      (by
        intro a _ _
        refine Ev.succ ?_
        simp only [laws_szCardS.l0, Int.lt_irrefl, if_false]
        exact Ev.now _)
      0 (Nat.zero_le _) (1048576 - (l.length : Int)) (by omega) (by omega)
    refine ⟨r, fun _ => by omega, ?_⟩
    simp only [eq_false h0, if_false]
    exact hr
theorem csz_map (l : List S55) (hz : ∀ y, y ∈ l → B55 y) : CSz (l.map cconv) := by
  intro i hi
  rw [List.length_map] at hi
  have hy := hz (l.getD i z55) (by rw [List.getD_eq_getElem?_getD, List.getElem?_eq_getElem hi]; exact List.getElem_mem hi)
  unfold cat
  rw [getD_map cconv l i z55 _ hi]
  exact hy.1
end Go.Proofs.Ytfnegjnklhfmaaa.Pure
namespace Go.Proofs.Ytfnegjnklhfmaaa.Pure
open Go.RowKit Go.Proofs.Ytfnegjnklhfmaaa.Q Go.Proofs.YtfnegjnklhfmaaaW.PrintWords Go.Proofs.YtfnegjnklhfmaaaW.PrintLast

theorem FnExactAreCards : laws_FnExactAreCards.Pure := by
  intro l h hz
  obtain ⟨r, _, hr⟩ := szCardS_ev l h hz
  refine Ev.rounds ?_
  unfold laws_FnExactAreCards.f spec_AreCards.f
  refine Ev.bind hr ?_
  by_cases h0 : r < 0
  · simp only [eq_true h0, if_true]
    exact Ev.now _
  simp only [eq_false h0, if_false]
  have hm : (l.map cconv).length < 4611686018427387904 := by rw [List.length_map]; omega
  have hs := csz_map l hz
  refine Ev.bind (toCardS_ev l h) ?_
  refine Ev.bind (Ev.bind (rpGood_ev _ hm hs) (Ev.now _)) ?_
  refine Ev.bind (toCardS_ev l h) ?_
  refine Ev.bind (areCards_ev _ hm hs) ?_
  simp only [bne_self_eq_false]
  refine Ev.bind (toCardS_ev l h) ?_
  refine Ev.bind (eqCardS_ev _ hm) ?_
  exact Ev.now _
end Go.Proofs.Ytfnegjnklhfmaaa.Pure
