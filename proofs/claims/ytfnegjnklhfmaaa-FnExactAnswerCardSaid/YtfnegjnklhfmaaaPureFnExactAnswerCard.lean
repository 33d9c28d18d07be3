/- For every card, day and answer, the program's AnswerCard returns what the reference's AnswerCard returns. No condition. -/
import Derived.Test.YtfnegjnklhfmaaaQImplAnswerCard
import Derived.Test.YtfnegjnklhfmaaaQImplCardAnswered
import Derived.Test.YtfnegjnklhfmaaaQImplDaysFor
import Derived.Test.YtfnegjnklhfmaaaQImplHasOnly
import Derived.Test.YtfnegjnklhfmaaaQImplIsCard
import Derived.Test.YtfnegjnklhfmaaaQImplIsFrame
import Derived.Test.YtfnegjnklhfmaaaQImplIsGloss
import Derived.Test.YtfnegjnklhfmaaaQImplIsWordOf
import Derived.Test.YtfnegjnklhfmaaaQImplWithin
import Derived.Test.YtfnegjnklhfmaaaQLawsEqCard
import Derived.Test.YtfnegjnklhfmaaaQLawsFnExactAnswerCard
import Derived.Test.YtfnegjnklhfmaaaQLawsSzCard
import Derived.Test.YtfnegjnklhfmaaaQLawsToCard
import Derived.Test.YtfnegjnklhfmaaaQSpecAnswerCard
import Derived.Test.YtfnegjnklhfmaaaQSpecFsWord
import Derived.Test.YtfnegjnklhfmaaaQSpecL1In
import Derived.Test.YtfnegjnklhfmaaaQSpecL1Least
import Derived.Test.YtfnegjnklhfmaaaQSpecRpDay
import Derived.Test.YtfnegjnklhfmaaaQSpecRpNext
import Derived.Test.YtfnegjnklhfmaaaQSpecRpOne
import Derived.Test.YtfnegjnklhfmaaaQStringsIndexByte
import Derived.Test.YtfnegjnklhfmaaaQ0
import Derived.Test.YtfnegjnklhfmaaaWWords
import Derived.Lib.Bytealg
set_option linter.unusedVariables false
set_option linter.unusedSimpArgs false
namespace Go.Proofs.Ytfnegjnklhfmaaa.Pure
open Go.RowKit Go.Proofs.Ytfnegjnklhfmaaa.Q Go.Proofs.YtfnegjnklhfmaaaW.PrintLast Go.Proofs.YtfnegjnklhfmaaaW.PrintMore Go.Proofs.YtfnegjnklhfmaaaW.PrintWords
theorem Ev.succ {α : Type} {g : Nat → Option α} {r : α} (h : Ev (fun k => g (k + 1)) r) : Ev g r := Ev.step (fun _ => rfl) h
theorem Ev.k {α : Type} {g : Nat → Option α} {o : Option α} {r : α} (hg : ∀ k, g k = o) (h : o = some r) : Ev g r := ⟨0, fun k _ => (hg k).trans h⟩
theorem Ev.eq {α : Type} {g : Nat → Option α} {r r' : α} (h : Ev g r) (e : r = r') : Ev g r' := e ▸ h
/-- A loop that ends early where P fails. -/
theorem Ev.all {β : Type} {L : Nat → Nat → Option β} {P : Nat → Bool} {n : Nat} {a b : β} (hend : Ev (fun k => L k n) a)
    (hyes : ∀ j r, j < n → P j = true → Ev (fun k => L k (j + 1)) r → Ev (fun k => L k j) r) (hno : ∀ j, j < n → P j = false → Ev (fun k => L k j) b) :
    ∀ i, i ≤ n → Ev (fun k => L k i) (if (List.range' i (n - i)).all P then a else b) := by
  intro i hi
  obtain ⟨d, hd⟩ : ∃ d, n = i + d := ⟨n - i, by omega⟩
  induction d generalizing i with
  | zero => simp at hd; subst hd; simpa using hend
  | succ d ih =>
    have h1 : n - i = (n - (i + 1)) + 1 := by omega
    rw [h1, List.range'_succ]
    simp only [List.all_cons]
    rcases Bool.eq_false_or_eq_true (P i) with hP | hP
    · simp only [hP, Bool.true_and]
      exact hyes i _ (by omega) hP (ih (i + 1) (by omega) (by omega))
    · simpa [hP] using hno i (by omega) hP
theorem Ev.all0 {β : Type} {L : Nat → Nat → Option β} {P : Nat → Bool} {n : Nat} {a b : β} (hend : Ev (fun k => L k n) a)
    (hyes : ∀ j r, j < n → P j = true → Ev (fun k => L k (j + 1)) r → Ev (fun k => L k j) r) (hno : ∀ j, j < n → P j = false → Ev (fun k => L k j) b) :
    Ev (fun k => L k 0) (if (List.range n).all P then a else b) := by
  have := Ev.all hend hyes hno 0 (Nat.zero_le _)
  rwa [Nat.sub_zero, ← List.range_eq_range'] at this

theorem wrap_id {x : Int} (h0 : -9223372036854775808 ≤ x) (h1 : x ≤ 9223372036854775807) : wrap64 x = x := by
  unfold wrap64
  omega
theorem wrap_succ {n : Nat} (h : n < 4611686018427387904) : wrap64 ((n : Int) + 1) = ((n + 1 : Nat) : Int) := by
  rw [wrap_id (by omega) (by omega)]
  omega
theorem nat_nonneg (n : Nat) : (0 ≤ (n : Int)) = True := eq_true (Int.natCast_nonneg n)
def inB (a b c : Int) : Bool := decide (b ≤ a ∧ a ≤ c)
theorem l1In_eq (a b c : Int) : spec_l1In.f a b c = some (inB a b c) := by
  unfold spec_l1In.f inB
  split <;> simp <;> omega
theorem within_eq (a b c : Int) : impl_within.f a b c = some (inB a b c) := by
  unfold impl_within.f inB
  split <;> simp <;> omega
def capAt (s : ByteArray) (j : Nat) : Bool := decide (65 ≤ bt s j ∧ bt s j ≤ 90)
def glossB (s : ByteArray) : Bool := inB s.size 1 8 && (List.range s.size).all (capAt s)
def caps : ByteArray := ⟨#[65, 66, 67, 68, 69, 70, 71, 72, 73, 74, 75, 76, 77, 78, 79, 80, 81, 82, 83, 84, 85, 86, 87, 88, 89, 90]⟩
theorem caps_all : ((List.range 256).all fun n => decide (Lib.indexByte caps.data.toList n.toUInt8 < 0) == !(decide (65 ≤ n ∧ n ≤ 90))) = true := by decide +kernel
theorem caps_index (b : Int) (h0 : 0 ≤ b) (h1 : b ≤ 255) : (Lib.indexByte caps.data.toList b.toNat.toUInt8 < 0) ↔ ¬ (65 ≤ b ∧ b ≤ 90) := by
  have h := List.all_eq_true.1 caps_all b.toNat (List.mem_range.2 (by omega))
  simp only [beq_iff_eq] at h
  by_cases hc : 65 ≤ b ∧ b ≤ 90
  · have h2 : decide (65 ≤ b.toNat ∧ b.toNat ≤ 90) = true := decide_eq_true (by omega)
    rw [h2] at h
    exact ⟨fun h3 => absurd h3 (of_decide_eq_false h), fun h3 => absurd hc h3⟩
  · have h2 : decide (65 ≤ b.toNat ∧ b.toNat ≤ 90) = false := decide_eq_false (by omega)
    rw [h2] at h
    exact ⟨fun _ => hc, fun _ => of_decide_eq_true h⟩
theorem hasOnly_ev (s : ByteArray) (hs : s.size < 4611686018427387904) : Ev (fun k => impl_hasOnly.f k s caps) ((List.range s.size).all (capAt s)) := by
  unfold impl_hasOnly.f
  refine Ev.eq (Ev.all0 (L := fun k j => impl_hasOnly.l0 k s caps (s.size : Int) (j : Int)) (P := capAt s) (n := s.size) (a := true) (b := false) ?_ ?_ ?_) (by split <;> simp_all)
  · refine Ev.succ ?_
    simp only [impl_hasOnly.l0, Int.lt_irrefl, if_false]
    exact Ev.now _
  · intro j r hj hP h
    refine Ev.succ ?_
    have h1 : ((j : Int) < (s.size : Int)) = True := eq_true (by omega)
    have hb := bt_range s (j : Int)
    have h2 : (Lib.indexByte caps.data.toList (bt s (j : Int)).toNat.toUInt8 < 0) = False := eq_false (fun hc => (caps_index _ hb.1 hb.2).1 hc (of_decide_eq_true hP))
    simp only [impl_hasOnly.l0, strings_IndexByte.f, Option.bind_some, h1, if_true, nat_nonneg, h2, if_false, wrap_succ (show j < 4611686018427387904 by omega)]
    exact h
  · intro j hj hP
    refine Ev.succ ?_
    have h1 : ((j : Int) < (s.size : Int)) = True := eq_true (by omega)
    have hb := bt_range s (j : Int)
    have h2 : (Lib.indexByte caps.data.toList (bt s (j : Int)).toNat.toUInt8 < 0) = True := eq_true ((caps_index _ hb.1 hb.2).2 (of_decide_eq_false hP))
    simp only [impl_hasOnly.l0, strings_IndexByte.f, Option.bind_some, h1, if_true, nat_nonneg, h2]
    exact Ev.now _
theorem isGloss_ev (s : ByteArray) (hs : s.size < 4611686018427387904) : Ev (fun k => impl_IsGloss.f k s) (glossB s) := by
  unfold impl_IsGloss.f impl_isWordOf.f glossB
  refine Ev.bind (a := inB s.size 1 8 && (List.range s.size).all (capAt s)) ?_ (Ev.now _)
  simp only [within_eq, Option.bind_some]
  rcases Bool.eq_false_or_eq_true (inB s.size 1 8) with h | h
  · simp only [h, if_true, Bool.true_and]
    exact Ev.bind (hasOnly_ev s hs) (Ev.now _)
  · simp only [h]
    exact Ev.now _
theorem fsWord_ev (s : ByteArray) (hs : s.size < 4611686018427387904) : Ev (fun k => spec_fsWord.f k s) (glossB s) := by
  unfold spec_fsWord.f
  refine Ev.eq (Ev.all0 (L := fun k j => spec_fsWord.l0 k s (j : Int)) (P := capAt s) (n := s.size) (a := inB s.size 1 8) (b := false) ?_ ?_ ?_) (by unfold glossB; split <;> simp_all)
  · refine Ev.succ ?_
    simp only [spec_fsWord.l0, Int.lt_irrefl, if_false, l1In_eq, Option.bind_some]
    exact Ev.now _
  · intro j r hj hP h
    refine Ev.succ ?_
    have h1 : ((j : Int) < (s.size : Int)) = True := eq_true (by omega)
    have hP' := of_decide_eq_true hP
    simp only [spec_fsWord.l0, h1, if_true, nat_nonneg, show (bt s (j : Int) < 65) = False from eq_false (by omega), show (bt s (j : Int) > 90) = False from eq_false (by omega), if_false, wrap_succ (show j < 4611686018427387904 by omega)]
    exact h
  · intro j hj hP
    refine Ev.succ ?_
    have h1 : ((j : Int) < (s.size : Int)) = True := eq_true (by omega)
    have hP' := of_decide_eq_false hP
    simp only [spec_fsWord.l0, h1, if_true, nat_nonneg]
    by_cases h2 : bt s (j : Int) < 65
    · simp only [eq_true h2, if_true]
      exact Ev.now _
    · simp only [eq_false h2, if_false, show (bt s (j : Int) > 90) = True from eq_true (by omega), if_true]
      exact Ev.now _
def cardB (g : ByteArray) (b d : Int) : Bool := glossB g && (inB b 0 5 && inB d 0 99999)
theorem isFrame_eq (d : Int) : impl_isFrame.f d = some (inB d 0 99999) := by
  unfold impl_isFrame.f
  simp only [within_eq, Option.bind_some]
theorem rpDay_eq (d : Int) : spec_rpDay.f d = some (inB d 0 99999) := by
  unfold spec_rpDay.f
  simp only [l1In_eq, Option.bind_some]
theorem isCard_ev (g : ByteArray) (b d : Int) (hs : g.size < 4611686018427387904) : Ev (fun k => impl_isCard.f k g b d) (cardB g b d) := by
  unfold impl_isCard.f cardB
  refine Ev.bind (isGloss_ev g hs) ?_
  simp only [within_eq, isFrame_eq, Option.bind_some]
  rcases Bool.eq_false_or_eq_true (glossB g) with h | h <;> rcases Bool.eq_false_or_eq_true (inB b 0 5) with h2 | h2 <;> simp only [h, h2] <;> exact Ev.now _
theorem rpOne_ev (g : ByteArray) (b d : Int) (hs : g.size < 4611686018427387904) : Ev (fun k => spec_rpOne.f k g b d) (cardB g b d) := by
  unfold spec_rpOne.f cardB
  refine Ev.bind (fsWord_ev g hs) ?_
  simp only [l1In_eq, rpDay_eq, Option.bind_some]
  rcases Bool.eq_false_or_eq_true (glossB g) with h | h <;> rcases Bool.eq_false_or_eq_true (inB b 0 5) with h2 | h2 <;> simp only [h, h2] <;> exact Ev.now _
theorem szCard_some (g : ByteArray) (b d : Int) (hs : g.size ≤ 140737488351232) : ∃ r, laws_szCard.f g b d 1048576 = some r := by
  unfold laws_szCard.f
  split <;> exact ⟨_, rfl⟩

theorem shl1 (b : Int) (h0 : 0 ≤ b) (h1 : b ≤ 5) : shl .i64 1 b = 2 ^ b.toNat ∧ 1 ≤ (2 : Int) ^ b.toNat ∧ (2 : Int) ^ b.toNat ≤ 32 := by
  have h : b = 0 ∨ b = 1 ∨ b = 2 ∨ b = 3 ∨ b = 4 ∨ b = 5 := by omega
  rcases h with rfl | rfl | rfl | rfl | rfl | rfl <;> decide +kernel
theorem u64_id (b : Int) (h0 : 0 ≤ b) (h1 : b ≤ 6) : IntKind.u64.wrap b = b := by
  have h : b = 0 ∨ b = 1 ∨ b = 2 ∨ b = 3 ∨ b = 4 ∨ b = 5 ∨ b = 6 := by omega
  rcases h with rfl | rfl | rfl | rfl | rfl | rfl | rfl <;> decide +kernel
def pw (b : Int) : Int := 2 ^ b.toNat
theorem daysFor_eq (b : Int) (h0 : 0 ≤ b) (h1 : b ≤ 5) : impl_daysFor.f b = some (pw b) := by
  unfold impl_daysFor.f
  rw [if_pos h0, (shl1 b h0 h1).1]
  rfl
theorem pw_bounds (b : Int) (h0 : 0 ≤ b) (h1 : b ≤ 5) : 1 ≤ pw b ∧ pw b ≤ 32 := (shl1 b h0 h1).2
def boxOf (b : Int) (right : Bool) : Int := if right then mn (b + 1) 5 else 0
theorem boxOf_bounds (b : Int) (right : Bool) (h0 : 0 ≤ b) (h1 : b ≤ 5) : 0 ≤ boxOf b right ∧ boxOf b right ≤ 5 := by
  unfold boxOf mn
  split
  · split <;> omega
  · omega
/-- The card after an answer; the last is false where it fails. -/
def nextR (g : ByteArray) (b d day : Int) (right : Bool) : ByteArray × Int × Int × Bool :=
  if day < d then (⟨#[]⟩, 0, 0, false) else if inB (day + pw (boxOf b right)) 0 99999 then (g, boxOf b right, day + pw (boxOf b right), true) else (⟨#[]⟩, 0, 0, false)
theorem cardB_parts {g : ByteArray} {b d : Int} (h : cardB g b d = true) : glossB g = true ∧ (0 ≤ b ∧ b ≤ 5) ∧ (0 ≤ d ∧ d ≤ 99999) := by
  simp only [cardB, Bool.and_eq_true, inB, decide_eq_true_eq] at h
  exact h
theorem least_eq (b : Int) : spec_l1Least.f 5 b = some (mn b 5) := by
  unfold spec_l1Least.f mn
  split <;> rfl
theorem rpNext_eq (g : ByteArray) (b d day : Int) (right : Bool) (h : cardB g b d = true) (hd : 0 ≤ day ∧ day ≤ 99999) : spec_rpNext.f g b d day right = some (nextR g b d day right) := by
  obtain ⟨_, hb, hdd⟩ := cardB_parts h
  have hx := boxOf_bounds b right hb.1 hb.2
  have hp := pw_bounds _ hx.1 hx.2
  unfold spec_rpNext.f nextR
  by_cases h1 : d > day
  · rw [if_pos h1, if_pos (show day < d by omega)]
  · rw [if_neg h1, if_neg (show ¬ day < d by omega)]
    cases right with
    | true =>
      have e : boxOf b true = mn (b + 1) 5 := rfl
      rw [e] at hx hp ⊢
      have hs : shl .i64 1 (mn (b + 1) 5) = pw (mn (b + 1) 5) := (shl1 _ hx.1 hx.2).1
      simp only [if_true, wrap_id (x := b + 1) (by omega) (by omega), least_eq, Option.bind_some, u64_id (mn (b + 1) 5) hx.1 (by omega), show (0 ≤ mn (b + 1) 5) = True from eq_true hx.1, hs, wrap_id (x := day + pw (mn (b + 1) 5)) (by omega) (by omega), rpDay_eq]
      split <;> simp_all
    | false =>
      have e : boxOf b false = 0 := rfl
      have e2 : pw 0 = 1 := by decide +kernel
      rw [e, e2]
      simp only [wrap_id (x := day + 1) (by omega) (by omega), rpDay_eq, Option.bind_some]
      rcases Bool.eq_false_or_eq_true (inB (day + 1) 0 99999) with h2 | h2 <;> simp [h2]
theorem answered_ev (g : ByteArray) (b d day : Int) (right : Bool) (hs : g.size < 4611686018427387904) (h : cardB g b d = true) (hd : 0 ≤ day ∧ day ≤ 99999) : Ev (fun k => impl_Card_answered.f k g b d day right) (nextR g b d day right) := by
  obtain ⟨hg, hb, hdd⟩ := cardB_parts h
  have hx := boxOf_bounds b right hb.1 hb.2
  have hp := pw_bounds _ hx.1 hx.2
  have key : Ev (fun k => impl_Card_answered.j0 k day (boxOf b right) g b d) (nextR g b d day right) := by
    refine Ev.succ ?_
    unfold nextR
    simp only [impl_Card_answered.j0, daysFor_eq _ hx.1 hx.2, Option.bind_some]
    by_cases h1 : day < d
    · simp only [eq_true h1, if_true]
      exact Ev.now _
    · simp only [eq_false h1, if_false, wrap_id (x := day + pw (boxOf b right)) (by omega) (by omega)]
      refine Ev.bind (isCard_ev g _ _ hs) ?_
      have e : cardB g (boxOf b right) (day + pw (boxOf b right)) = inB (day + pw (boxOf b right)) 0 99999 := by
        unfold cardB
        rw [hg, show inB (boxOf b right) 0 5 = true from decide_eq_true hx]
        simp
      rw [e]
      rcases Bool.eq_false_or_eq_true (inB (day + pw (boxOf b right)) 0 99999) with h2 | h2 <;> simp only [h2] <;> exact Ev.now _
  unfold impl_Card_answered.f
  cases right with
  | true =>
    have e : boxOf b true = mn (b + 1) 5 := rfl
    rw [e] at key
    simp only [if_true, wrap_id (x := b + 1) (by omega) (by omega)]
    exact key
  | false => exact key
def answerR (g : ByteArray) (b d day : Int) (right : Bool) : ByteArray × Int × Int × Bool := if cardB g b d && inB day 0 99999 then nextR g b d day right else (⟨#[]⟩, 0, 0, false)
theorem implAnswerCard_ev (g : ByteArray) (b d day : Int) (right : Bool) (hs : g.size < 4611686018427387904) : Ev (fun k => impl_AnswerCard.f k g b d day right) (answerR g b d day right) := by
  unfold impl_AnswerCard.f answerR
  refine Ev.bind (isCard_ev g b d hs) ?_
  rcases Bool.eq_false_or_eq_true (cardB g b d) with h | h
  · simp only [h, if_true, isFrame_eq, Option.bind_some, Bool.true_and]
    rcases Bool.eq_false_or_eq_true (inB day 0 99999) with h2 | h2
    · simp only [h2, if_true]
      refine Ev.bind (answered_ev g b d day right hs h (of_decide_eq_true h2)) ?_
      exact Ev.now _
    · simp only [h2]
      exact Ev.now _
  · simp only [h]
    exact Ev.now _
theorem specAnswerCard_ev (g : ByteArray) (b d day : Int) (right : Bool) (hs : g.size < 4611686018427387904) : Ev (fun k => spec_AnswerCard.f k g b d day right) (answerR g b d day right) := by
  unfold spec_AnswerCard.f answerR
  refine Ev.bind (rpOne_ev g b d hs) ?_
  rcases Bool.eq_false_or_eq_true (cardB g b d) with h | h
  · simp only [h, if_true, rpDay_eq, Option.bind_some, Bool.true_and]
    rcases Bool.eq_false_or_eq_true (inB day 0 99999) with h2 | h2
    · simp only [h2, if_true, rpNext_eq g b d day right h (of_decide_eq_true h2), Option.bind_some]
      exact Ev.now _
    · simp only [h2]
      exact Ev.now _
  · simp only [h]
    exact Ev.now _
end Go.Proofs.Ytfnegjnklhfmaaa.Pure
namespace Go.Proofs.Ytfnegjnklhfmaaa.Pure
open Go.RowKit Go.Proofs.Ytfnegjnklhfmaaa.Q Go.Proofs.YtfnegjnklhfmaaaW.PrintWords Go.Proofs.YtfnegjnklhfmaaaW.PrintLast Go.Proofs.YtfnegjnklhfmaaaW.PrintMore

theorem FnExactAnswerCard : laws_FnExactAnswerCard.Pure := by
  intro g b d day right hs hb hd hday
  obtain ⟨r, hr⟩ := szCard_some g b d hs
  refine Ev.rounds ?_
  unfold laws_FnExactAnswerCard.f laws_toCard.f
  simp only [hr, Option.bind_some]
  by_cases h0 : r < 0
  · simp only [eq_true h0, if_true]
    exact Ev.now _
  simp only [eq_false h0, if_false]
  refine Ev.bind (specAnswerCard_ev g b d day right (by omega)) ?_
  refine Ev.bind (implAnswerCard_ev g b d day right (by omega)) ?_
  simp only [laws_eqCard.f, Option.bind_some, bne_self_eq_false, if_true]
  exact Ev.now _
end Go.Proofs.Ytfnegjnklhfmaaa.Pure
