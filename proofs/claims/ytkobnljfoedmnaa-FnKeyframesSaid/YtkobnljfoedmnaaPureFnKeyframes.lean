/- For all bytes: of the keys that are drawn out of them, poses between keys keep the limits, fastest parts are the fastest, and the least stretch keeps the speed; the program answers as the reference does. No condition. -/
import Derived.Test.YtkobnljfoedmnaaQBEq52
import Derived.Test.YtkobnljfoedmnaaQBImplBetween
import Derived.Test.YtkobnljfoedmnaaQBSpecAvDown
import Derived.Test.YtkobnljfoedmnaaQBSpecDrawAreKeys
import Derived.Test.YtkobnljfoedmnaaQBSpecL1CurKeyFrame
import Derived.Test.YtkobnljfoedmnaaQBSpecL1CurSpeedOf
import Derived.Test.YtkobnljfoedmnaaQBSpecL1In
import Derived.Test.YtkobnljfoedmnaaQImplAreKeys
import Derived.Test.YtkobnljfoedmnaaQImplPoseAt
import Derived.Test.YtkobnljfoedmnaaQLawsFnKeyframes
import Derived.Test.YtkobnljfoedmnaaQSpecAvGood
import Derived.Test.YtkobnljfoedmnaaQSpecL1CurKey
import Derived.Test.YtkobnljfoedmnaaQSpecL1CurKeys
import Derived.Test.YtkobnljfoedmnaaQSpecPoseAt
import Derived.Test.YtkobnljfoedmnaaQ0
import Derived.Test.YtkobnljfoedmnaaWWords
import Derived.Laws.BitsLemmas
import Derived.Lib.Slices
set_option linter.unusedVariables false
set_option linter.unusedSimpArgs false
namespace Go.Proofs.Ytkobnljfoedmnaa.Pure
open Go.RowKit Go.Proofs.Ytkobnljfoedmnaa.Q Go.Proofs.YtkobnljfoedmnaaW.PrintLast Go.Proofs.YtkobnljfoedmnaaW.PrintWords
theorem Ev.succ {α : Type} {g : Nat → Option α} {r : α} (h : Ev (fun k => g (k + 1)) r) : Ev g r := Ev.step (fun _ => rfl) h
theorem Ev.k {α : Type} {g : Nat → Option α} {o : Option α} {r : α} (hg : ∀ k, g k = o) (h : o = some r) : Ev g r := ⟨0, fun k _ => (hg k).trans h⟩
theorem Ev.eq {α : Type} {g : Nat → Option α} {r r' : α} (h : Ev g r) (e : r = r') : Ev g r' := e ▸ h
/-- From round i up to round n. -/
theorem Ev.upto {β : Type} {L : Nat → Nat → Option β} {r : β} {n : Nat} (hend : Ev (fun k => L k n) r)
    (hstep : ∀ j, j < n → Ev (fun k => L k (j + 1)) r → Ev (fun k => L k j) r) : ∀ i, i ≤ n → Ev (fun k => L k i) r := by
  intro i hi
  obtain ⟨d, hd⟩ : ∃ d, n = i + d := ⟨n - i, by omega⟩
  induction d generalizing i with
  | zero => simp at hd; subst hd; exact hend
  | succ d ih => exact hstep i (by omega) (ih (i + 1) (by omega) (by omega))
/-- A loop that ends early where P fails. -/
theorem Ev.all {β : Type} {L : Nat → Nat → Option β} {P : Nat → Bool} {n : Nat} {a b : β} (hend : Ev (fun k => L k n) a)
    (hyes : ∀ j r, j < n → P j = true → Ev (fun k => L k (j + 1)) r → Ev (fun k => L k j) r) (hno : ∀ j, j < n → P j = false → Ev (fun k => L k j) b) :
    ∀ i, i ≤ n → Ev (fun k => L k i) (if (List.range' i (n - i)).all P then a else b) := by
  intro i hi
  obtain ⟨d, hd⟩ : ∃ d, n = i + d := ⟨n - i, by omega⟩
  induction d generalizing i with
  | zero => simp at hd; subst hd; simpa using hend
  | succ d ih =>
    have h1 : n - i = (n - (i + 1)) + 1 := by omega
    rw [h1, List.range'_succ]
    simp only [List.all_cons]
    rcases Bool.eq_false_or_eq_true (P i) with hP | hP
    · simp only [hP, Bool.true_and]
      exact hyes i _ (by omega) hP (ih (i + 1) (by omega) (by omega))
    · simpa [hP] using hno i (by omega) hP
theorem Ev.all0 {β : Type} {L : Nat → Nat → Option β} {P : Nat → Bool} {n : Nat} {a b : β} (hend : Ev (fun k => L k n) a)
    (hyes : ∀ j r, j < n → P j = true → Ev (fun k => L k (j + 1)) r → Ev (fun k => L k j) r) (hno : ∀ j, j < n → P j = false → Ev (fun k => L k j) b) :
    Ev (fun k => L k 0) (if (List.range n).all P then a else b) := by
  have := Ev.all hend hyes hno 0 (Nat.zero_le _)
  rwa [Nat.sub_zero, ← List.range_eq_range'] at this

theorem wrap_id {x : Int} (h0 : -9223372036854775808 ≤ x) (h1 : x ≤ 9223372036854775807) : wrap64 x = x := by
  unfold wrap64
  omega
theorem wrap_succ {n : Nat} (h : n < 4611686018427387904) : wrap64 ((n : Int) + 1) = ((n + 1 : Nat) : Int) := by
  rw [wrap_id (by omega) (by omega)]
  omega
theorem wrap_pred {n : Nat} (h0 : 0 < n) (h : n < 4611686018427387904) : wrap64 ((n : Int) - 1) = ((n - 1 : Nat) : Int) := by
  rw [wrap_id (by omega) (by omega)]
  omega
theorem nat_nonneg (n : Nat) : (0 ≤ (n : Int)) = True := eq_true (Int.natCast_nonneg n)
/-- Bytes, and not too many. -/
structure U8 (l : List Int) : Prop where
  b : ∀ y, y ∈ l → (Lit.int .u8 y).wf = true
  n : l.length ≤ 140737488351232
theorem u8_bound {y : Int} (h : (Lit.int .u8 y).wf = true) : 0 ≤ y ∧ y ≤ 255 := by
  simp [Lit.wf, IntKind.min, IntKind.max, IntKind.bits, IntKind.signed] at h
  omega
theorem and255 (x : Int) : 0 ≤ Go.bits .and .u64 x 255 ∧ Go.bits .and .u64 x 255 ≤ 255 := by
  have h : ((BitVec.ofInt 64 x &&& BitVec.ofInt 64 255).toNat : Nat) ≤ 255 := by
    rw [BitVec.toNat_and]
    exact Nat.le_trans Nat.and_le_right (by decide)
  have e : Go.bits .and .u64 x 255 = ((((BitVec.ofInt 64 x &&& BitVec.ofInt 64 255).toNat : Nat) : Int) % 18446744073709551616) := by
    unfold Go.bits IntKind.wrap
    simp only [IntKind.signed, Bool.false_and, Bool.false_eq_true, if_false]
    rfl
  rw [e]
  generalize (BitVec.ofInt 64 x &&& BitVec.ofInt 64 255).toNat = n at h
  omega
/-- The reader at a answers what P says and goes on by no more than n. -/
def Res {α : Type} (f : Option (α × Int × Int)) (a n : Int) (P : α → Prop) : Prop := ∃ r a' s', f = some (r, a', s') ∧ P r ∧ a ≤ a' ∧ a' ≤ a + n
theorem next_ok {l : List Int} (hu : U8 l) {a : Int} (s : Int) (h0 : 0 ≤ a) (h1 : a ≤ 1000000000000) : Res (spec_l1Cur_next.f l a s) a 1 (fun r => 0 ≤ r ∧ r ≤ 255) := by
  have hw : wrap64 (a + 1) = a + 1 := wrap_id (by omega) (by omega)
  unfold spec_l1Cur_next.f
  rw [hw]
  have low : ∀ x : Int, 0 ≤ wrap64 (Go.bits .and .u64 x 255) ∧ wrap64 (Go.bits .and .u64 x 255) ≤ 255 := fun x => by
    have := and255 x
    rw [wrap_id (by omega) (by omega)]
    exact this
  by_cases h2 : a < (l.length : Int)
  · have hr : 0 ≤ rd l a ∧ rd l a ≤ 255 := by
      have hlt : a.toNat < l.length := by omega
      have e : rd l a = l[a.toNat] := by
        show l.getD a.toNat 0 = _
        rw [List.getD_eq_getElem?_getD, List.getElem?_eq_getElem hlt]
        rfl
      rw [e]
      exact u8_bound (hu.b _ (List.getElem_mem _))
    have hwr : wrap64 (rd l a) = rd l a := wrap_id (by omega) (by omega)
    rw [if_pos h2, if_pos h0, hwr]
    by_cases h3 : a + 1 ≤ (l.length : Int)
    · rw [if_pos h3]
      exact ⟨_, _, _, rfl, hr, by omega, by omega⟩
    · rw [if_neg h3]
      refine ⟨_, _, _, rfl, ?_, by omega, by omega⟩
      exact low _
  · rw [if_neg h2]
    by_cases h3 : a + 1 ≤ (l.length : Int)
    · rw [if_pos h3]
      exact ⟨_, _, _, rfl, ⟨by decide, by decide⟩, by omega, by omega⟩
    · rw [if_neg h3]
      exact ⟨_, _, _, rfl, low _, by omega, by omega⟩
theorem pick_ok {l : List Int} (hu : U8 l) {a : Int} (s : Int) (h0 : 0 ≤ a) (h1 : a ≤ 999999999990) (n : Int) (hn : 1 ≤ n) (hm : n ≤ 1000000) : Res (spec_l1Cur_pick.f l a s n) a 2 (fun r => 0 ≤ r ∧ r < n) := by
  unfold spec_l1Cur_pick.f
  by_cases h2 : n ≤ 1
  · rw [if_pos h2]
    exact ⟨_, _, _, rfl, ⟨by omega, by omega⟩, by omega, by omega⟩
  · rw [if_neg h2]
    obtain ⟨x, a1, s1, e1, ⟨x0, x1⟩, p1, p2⟩ := next_ok hu s h0 (by omega)
    rw [e1]
    simp only [Option.bind_some, eq_false (show ¬ n = 0 by omega), if_false]
    by_cases h3 : n > 200
    · obtain ⟨y, a2, s2, e2, ⟨y0, y1⟩, q1, q2⟩ := next_ok hu s1 (a := a1) (by omega) (by omega)
      simp only [eq_true h3, if_true, e2, Option.bind_some]
      refine ⟨_, _, _, rfl, ?_, by omega, by omega⟩
      rw [wrap_id (x := x * 256) (by omega) (by omega), wrap_id (by omega) (by omega), Int.tmod_eq_emod_of_nonneg (by omega)]
      exact ⟨Int.emod_nonneg _ (by omega), Int.emod_lt_of_pos _ (by omega)⟩
    · simp only [eq_false h3, if_false]
      refine ⟨_, _, _, rfl, ?_, by omega, by omega⟩
      rw [Int.tmod_eq_emod_of_nonneg (by omega)]
      exact ⟨Int.emod_nonneg _ (by omega), Int.emod_lt_of_pos _ (by omega)⟩
theorem one_ok {l : List Int} (hu : U8 l) {a : Int} (s : Int) (h0 : 0 ≤ a) (h1 : a ≤ 999999999990) (n : Int) (hn : 1 ≤ n) (hm : n ≤ 1000000) : Res (spec_l1Cur_one.f l a s n) a 2 (fun _ => True) := by
  obtain ⟨x, a1, s1, e1, _, p1, p2⟩ := pick_ok hu s h0 h1 n hn hm
  unfold spec_l1Cur_one.f
  rw [e1]
  exact ⟨_, _, _, rfl, trivial, p1, p2⟩
theorem among_ok {l : List Int} (hu : U8 l) {a : Int} (s : Int) (h0 : 0 ≤ a) (h1 : a ≤ 999999999990) (L : List Int) (hn : 0 < L.length) (hm : L.length ≤ 1000000) : Res (spec_l1Cur_among.f l a s L) a 2 (fun r => r ∈ L) := by
  obtain ⟨x, a1, s1, e1, ⟨x0, x1⟩, p1, p2⟩ := pick_ok hu s h0 h1 (L.length : Int) (by omega) (by omega)
  unfold spec_l1Cur_among.f
  rw [e1]
  simp only [Option.bind_some, eq_true x0, eq_true x1, if_true]
  refine ⟨_, _, _, rfl, ?_, p1, p2⟩
  have hlt : x.toNat < L.length := by omega
  have e : rd L x = L[x.toNat] := by
    show L.getD x.toNat 0 = _
    rw [List.getD_eq_getElem?_getD, List.getElem?_eq_getElem hlt]
    rfl
  rw [e]
  exact List.getElem_mem _
def inB (a b c : Int) : Bool := decide (b ≤ a ∧ a ≤ c)
theorem l1In_eq (a b c : Int) : spec_l1In.f a b c = some (inB a b c) := by
  unfold spec_l1In.f inB
  split <;> simp <;> omega
theorem within_eq (a b c : Int) : impl_within.f a b c = some (inB a b c) := by
  unfold impl_within.f inB
  split <;> simp <;> omega
def keyB (a b c d e : Int) : Bool := inB a 0 9999 && (inB b (-90) 180 && (inB c 0 150 && (inB d (-70) 70 && inB e 0 90)))
theorem isKey_eq (a b c d e : Int) : impl_IsKey.f a b c d e = some (keyB a b c d e) := by
  unfold impl_IsKey.f keyB
  simp only [within_eq, Option.bind_some]
  cases inB a 0 9999 <;> cases inB b (-90) 180 <;> cases inB c 0 150 <;> cases inB d (-70) 70 <;> simp
theorem avOne_eq (a b c d e : Int) : spec_avOne.f a b c d e = some (keyB a b c d e) := by
  unfold spec_avOne.f spec_avFrame.f keyB
  simp only [l1In_eq, Option.bind_some]
  cases inB a 0 9999 <;> cases inB b (-90) 180 <;> cases inB c 0 150 <;> cases inB d (-70) 70 <;> simp
theorem rdK (l : List S52) (j : Nat) : rd_T52 l (j : Int) = l.getD j z52 := by simp [rd_T52]
def kat (l : List S52) (j : Nat) : S52 := l.getD j z52
theorem rdk (l : List S52) (j : Nat) : rd_T52 l (j : Int) = kat l j := rdK l j
def kOk (x : S52) : Bool := keyB x.f0 x.f1 x.f2 x.f3 x.f4
def okAt (l : List S52) (i : Nat) : Bool := kOk (kat l i) && (decide (i = 0) || decide ((kat l (i - 1)).f0 < (kat l i).f0))
def goodB (l : List S52) : Bool := if (List.range l.length).all (okAt l) then decide (l.length ≤ 15) else false

theorem avGood_ev (l : List S52) (hl : l.length < 4611686018427387904) : Ev (fun k => spec_avGood.f k l) (goodB l) := by
  unfold spec_avGood.f goodB
  refine Ev.all0 (L := fun k j => spec_avGood.l0 k l l (l.length : Int) (j : Int)) (P := okAt l) (n := l.length) ?_ ?_ ?_
  · refine Ev.succ ?_
    simp only [spec_avGood.l0, Int.lt_irrefl, if_false]
    refine Ev.eq (Ev.now _) ?_
    rw [decide_eq_decide]
    omega
  · intro j r hj hP h
    refine Ev.succ ?_
    have h1 : ((j : Int) < (l.length : Int)) = True := eq_true (by omega)
    simp only [okAt, Bool.and_eq_true, Bool.or_eq_true, decide_eq_true_eq, kOk] at hP
    simp only [spec_avGood.l0, avOne_eq, Option.bind_some, h1, if_true, nat_nonneg, rdk, wrap_succ (show j < 4611686018427387904 by omega), hP.1]
    by_cases h0 : j = 0
    · subst h0
      exact h
    · have h2 : ((j : Int) > 0) = True := eq_true (by omega)
      have h3 : (((j - 1 : Nat) : Int) < (l.length : Int)) = True := eq_true (by omega)
      have h4 : ((kat l (j - 1)).f0 ≥ (kat l j).f0) = False := eq_false (by have := hP.2.resolve_left h0; omega)
      simp only [h2, if_true, wrap_pred (show 0 < j by omega) (show j < 4611686018427387904 by omega), nat_nonneg, h3, rdk, h4, if_false]
      exact h
  · intro j hj hP
    refine Ev.succ ?_
    have h1 : ((j : Int) < (l.length : Int)) = True := eq_true (by omega)
    simp only [okAt, kOk] at hP
    simp only [spec_avGood.l0, avOne_eq, Option.bind_some, h1, if_true, nat_nonneg, rdk, wrap_succ (show j < 4611686018427387904 by omega)]
    rcases Bool.eq_false_or_eq_true (keyB (kat l j).f0 (kat l j).f1 (kat l j).f2 (kat l j).f3 (kat l j).f4) with hk | hk
    · simp only [hk, if_true]
      simp only [hk, Bool.true_and, Bool.or_eq_false_iff, decide_eq_false_iff_not] at hP
      have h2 : ((j : Int) > 0) = True := eq_true (by omega)
      have h3 : (((j - 1 : Nat) : Int) < (l.length : Int)) = True := eq_true (by omega)
      have h4 : ((kat l (j - 1)).f0 ≥ (kat l j).f0) = True := eq_true (by omega)
      simp only [h2, if_true, wrap_pred (show 0 < j by omega) (show j < 4611686018427387904 by omega), nat_nonneg, h3, rdk, h4]
      exact Ev.now _
    · simp only [hk]
      exact Ev.now _
theorem areKeys_ev (l : List S52) (hl : l.length < 4611686018427387904) : Ev (fun k => impl_AreKeys.f k l) (goodB l) := by
  unfold impl_AreKeys.f goodB
  refine Ev.all0 (L := fun k j => impl_AreKeys.l0 k l l (l.length : Int) (j : Int)) (P := okAt l) (n := l.length) ?_ ?_ ?_
  · refine Ev.succ ?_
    simp only [impl_AreKeys.l0, Int.lt_irrefl, if_false]
    refine Ev.eq (Ev.now _) ?_
    rw [decide_eq_decide]
    omega
  · intro j r hj hP h
    refine Ev.succ ?_
    have h1 : ((j : Int) < (l.length : Int)) = True := eq_true (by omega)
    simp only [okAt, Bool.and_eq_true, Bool.or_eq_true, decide_eq_true_eq, kOk] at hP
    simp only [impl_AreKeys.l0, isKey_eq, Option.bind_some, h1, if_true, nat_nonneg, rdk, wrap_succ (show j < 4611686018427387904 by omega), hP.1]
    by_cases h0 : j = 0
    · subst h0
      exact h
    · have h2 : ((j : Int) > 0) = True := eq_true (by omega)
      have h3 : (((j - 1 : Nat) : Int) < (l.length : Int)) = True := eq_true (by omega)
      have h4 : ((kat l j).f0 ≤ (kat l (j - 1)).f0) = False := eq_false (by have := hP.2.resolve_left h0; omega)
      simp only [h2, if_true, wrap_pred (show 0 < j by omega) (show j < 4611686018427387904 by omega), nat_nonneg, h3, rdk, h4, if_false]
      exact h
  · intro j hj hP
    refine Ev.succ ?_
    have h1 : ((j : Int) < (l.length : Int)) = True := eq_true (by omega)
    simp only [okAt, kOk] at hP
    simp only [impl_AreKeys.l0, isKey_eq, Option.bind_some, h1, if_true, nat_nonneg, rdk, wrap_succ (show j < 4611686018427387904 by omega)]
    rcases Bool.eq_false_or_eq_true (keyB (kat l j).f0 (kat l j).f1 (kat l j).f2 (kat l j).f3 (kat l j).f4) with hk | hk
    · simp only [hk, if_true]
      simp only [hk, Bool.true_and, Bool.or_eq_false_iff, decide_eq_false_iff_not] at hP
      have h2 : ((j : Int) > 0) = True := eq_true (by omega)
      have h3 : (((j - 1 : Nat) : Int) < (l.length : Int)) = True := eq_true (by omega)
      have h4 : ((kat l j).f0 ≤ (kat l (j - 1)).f0) = True := eq_true (by omega)
      simp only [h2, if_true, wrap_pred (show 0 < j by omega) (show j < 4611686018427387904 by omega), nat_nonneg, h3, rdk, h4]
      exact Ev.now _
    · simp only [hk]
      exact Ev.now _

/-- What good keys are. -/
structure Good (l : List S52) : Prop where
  len : l.length ≤ 15
  key : ∀ i, i < l.length → (0 ≤ (kat l i).f0 ∧ (kat l i).f0 ≤ 9999) ∧ (-90 ≤ (kat l i).f1 ∧ (kat l i).f1 ≤ 180) ∧ (0 ≤ (kat l i).f2 ∧ (kat l i).f2 ≤ 150) ∧ (-70 ≤ (kat l i).f3 ∧ (kat l i).f3 ≤ 70) ∧ (0 ≤ (kat l i).f4 ∧ (kat l i).f4 ≤ 90)
  inc : ∀ i, i + 1 < l.length → (kat l i).f0 < (kat l (i + 1)).f0
theorem kOk_iff (x : S52) : kOk x = true ↔ (0 ≤ x.f0 ∧ x.f0 ≤ 9999) ∧ (-90 ≤ x.f1 ∧ x.f1 ≤ 180) ∧ (0 ≤ x.f2 ∧ x.f2 ≤ 150) ∧ (-70 ≤ x.f3 ∧ x.f3 ≤ 70) ∧ (0 ≤ x.f4 ∧ x.f4 ≤ 90) := by
  simp [kOk, keyB, inB]
theorem goodB_iff (l : List S52) : goodB l = true ↔ Good l := by
  unfold goodB
  constructor
  · intro h
    split at h
    · rename_i ha
      have ha' : ∀ i, i < l.length → okAt l i = true := fun i hi => List.all_eq_true.1 ha i (List.mem_range.2 hi)
      refine ⟨of_decide_eq_true h, fun i hi => ?_, fun i hi => ?_⟩
      · have := ha' i hi
        simp only [okAt, Bool.and_eq_true] at this
        exact (kOk_iff _).1 this.1
      · have := ha' (i + 1) hi
        simp only [okAt, Bool.and_eq_true, Bool.or_eq_true, decide_eq_true_eq] at this
        have h2 := this.2.resolve_left (by omega)
        simpa using h2
    · cases h
  · intro h
    rw [if_pos ?_]
    · exact decide_eq_true h.len
    · refine List.all_eq_true.2 fun i hi => ?_
      have hi := List.mem_range.1 hi
      simp only [okAt, Bool.and_eq_true, Bool.or_eq_true, decide_eq_true_eq]
      refine ⟨(kOk_iff _).2 (h.key i hi), ?_⟩
      by_cases h0 : i = 0
      · exact .inl h0
      · refine .inr ?_
        have := h.inc (i - 1) (by omega)
        rwa [show i - 1 + 1 = i by omega] at this
theorem key_ok {l : List Int} (hu : U8 l) {a : Int} (s : Int) (h0 : 0 ≤ a) (h1 : a ≤ 999999999900) (fr : Int) : ∃ x1 x2 x3 x4 a' s', Ev (fun k => spec_l1Cur_key.f k l a s fr) (fr, x1, x2, x3, x4, a', s') ∧ a ≤ a' ∧ a' ≤ a + 12 := by
  obtain ⟨y1, a1, s1, e1, _, p1, q1⟩ := among_ok hu s h0 (by omega) [0, 45, 90, (-90), 180] (by decide) (by decide)
  obtain ⟨y2, a2, s2, e2, _, p2, q2⟩ := among_ok hu s1 (a := a1) (by omega) (by omega) [0, 30, 90, 150] (by decide) (by decide)
  obtain ⟨y3, a3, s3, e3, _, p3, q3⟩ := among_ok hu s2 (a := a2) (by omega) (by omega) [0, (-20), 35, 70, (-70)] (by decide) (by decide)
  obtain ⟨y4, a4, s4, e4, _, p4, q4⟩ := among_ok hu s3 (a := a3) (by omega) (by omega) [0, 5, 45, 90] (by decide) (by decide)
  obtain ⟨n, a5, s5, e5, _, p5, q5⟩ := pick_ok hu s4 (a := a4) (by omega) (by omega) 60 (by decide) (by decide)
  unfold spec_l1Cur_key.f
  simp only [e1, e2, e3, e4, e5, Option.bind_some]
  by_cases c0 : n = 0
  · obtain ⟨z, a6, s6, e6, _, p6, q6⟩ := among_ok hu s5 (a := a5) (by omega) (by omega) [(-91), 181, (-9223372036854775808)] (by decide) (by decide)
    refine ⟨z, y2, y3, y4, a6, s6, ?_, by omega, by omega⟩
    simp only [eq_true c0, if_true, e6, Option.bind_some]
    exact Ev.succ (by simp only [spec_l1Cur_key.j0]; exact Ev.now _)
  · by_cases c1 : n = 1
    · obtain ⟨z, a6, s6, e6, _, p6, q6⟩ := among_ok hu s5 (a := a5) (by omega) (by omega) [(-1), 151] (by decide) (by decide)
      refine ⟨y1, z, y3, y4, a6, s6, ?_, by omega, by omega⟩
      simp only [eq_false c0, if_false, eq_true c1, if_true, e6, Option.bind_some, show ((1 : Int) = 0) = False from eq_false (by decide)]
      exact Ev.succ (by simp only [spec_l1Cur_key.j0]; exact Ev.now _)
    · by_cases c2 : n = 2
      · obtain ⟨z, a6, s6, e6, _, p6, q6⟩ := among_ok hu s5 (a := a5) (by omega) (by omega) [(-71), 71, (-9223372036854775808)] (by decide) (by decide)
        refine ⟨y1, y2, z, y4, a6, s6, ?_, by omega, by omega⟩
        simp only [eq_false c0, eq_false c1, if_false, eq_true c2, if_true, e6, Option.bind_some, show ((2 : Int) = 0) = False from eq_false (by decide), show ((2 : Int) = 1) = False from eq_false (by decide)]
        exact Ev.succ (by simp only [spec_l1Cur_key.j0]; exact Ev.now _)
      · by_cases c3 : n = 3
        · obtain ⟨z, a6, s6, e6, _, p6, q6⟩ := among_ok hu s5 (a := a5) (by omega) (by omega) [(-1), 91] (by decide) (by decide)
          refine ⟨y1, y2, y3, z, a6, s6, ?_, by omega, by omega⟩
          simp only [eq_false c0, eq_false c1, eq_false c2, if_false, eq_true c3, if_true, e6, Option.bind_some, show ((3 : Int) = 0) = False from eq_false (by decide), show ((3 : Int) = 1) = False from eq_false (by decide), show ((3 : Int) = 2) = False from eq_false (by decide)]
          exact Ev.succ (by simp only [spec_l1Cur_key.j0]; exact Ev.now _)
        · refine ⟨y1, y2, y3, y4, a5, s5, ?_, by omega, by omega⟩
          simp only [eq_false c0, eq_false c1, eq_false c2, eq_false c3, if_false]
          exact Ev.succ (by simp only [spec_l1Cur_key.j0]; exact Ev.now _)
theorem keyFrame_ok {l : List Int} (hu : U8 l) {a : Int} (s : Int) (h0 : 0 ≤ a) (h1 : a ≤ 999999999900) : Res (spec_l1Cur_keyFrame.f l a s) a 6 (fun _ => True) := by
  obtain ⟨n, a1, s1, e1, _, p1, q1⟩ := pick_ok hu s h0 (by omega) 60 (by decide) (by decide)
  obtain ⟨y2, a2, s2, e2, _, p2, q2⟩ := among_ok hu s1 (a := a1) (by omega) (by omega) [7, (-1), 10000] (by decide) (by decide)
  obtain ⟨y3, a3, s3, e3, _, p3, q3⟩ := among_ok hu s2 (a := a2) (by omega) (by omega) [0, 3, 5, 10, n, 9999, y2] (by simp) (by simp)
  unfold spec_l1Cur_keyFrame.f
  simp only [e1, e2, e3, Option.bind_some]
  exact ⟨_, _, _, rfl, trivial, by omega, by omega⟩
theorem keys_j2 {l : List Int} (hu : U8 l) (x3 : List S52) (b : Bool) {a : Int} (s : Int) (h0 : 0 ≤ a) (h1 : a ≤ 999999999000) (hn : x3.length ≤ 16) (hb : b = true → 0 < x3.length) : ∃ L a' s', Ev (fun k => spec_l1Cur_keys.j2 k x3 (x3.length : Int) b l a s) (L, a', s') ∧ L.length ≤ 16 ∧ a ≤ a' ∧ a' ≤ a + 4 := by
  cases b with
  | false =>
    refine ⟨x3, a, s, Ev.succ ?_, hn, by omega, by omega⟩
    simp only [spec_l1Cur_keys.j2, Bool.false_eq_true, if_false]
    exact Ev.now _
  | true =>
    have hp := hb rfl
    obtain ⟨n, a1, s1, e1, ⟨n0, n1⟩, p1, q1⟩ := pick_ok hu s h0 (by omega) (x3.length : Int) (by omega) (by omega)
    obtain ⟨y2, a2, s2, e2, _, p2, q2⟩ := among_ok hu s1 (a := a1) (by omega) (by omega) [(-1), 9999, 10000, 0] (by decide) (by decide)
    refine ⟨x3.set n.toNat (⟨y2, (rd_T52 x3 n).f1, (rd_T52 x3 n).f2, (rd_T52 x3 n).f3, (rd_T52 x3 n).f4⟩ : S52), a2, s2, Ev.succ ?_, by rw [List.length_set]; exact hn, by omega, by omega⟩
    simp only [spec_l1Cur_keys.j2, if_true, e1, e2, Option.bind_some, eq_true n0, eq_true n1]
    exact Ev.now _
theorem keys_l0 {l : List Int} (hu : U8 l) (N : Nat) (hN : N ≤ 16) : ∀ (d : Nat) (x3 : List S52) (x4 a s : Int), x3.length + d = N → 0 ≤ a → a + 20 * d ≤ 999999998000 → ∃ L a' s', Ev (fun k => spec_l1Cur_keys.l0 k x3 x4 (N : Int) l a s) (L, a', s') ∧ L.length ≤ 16 ∧ a ≤ a' ∧ a' ≤ a + 20 * d + 10 := by
  intro d
  induction d with
  | zero =>
    intro x3 x4 a s hd h0 h1
    have e : (N : Int) = (x3.length : Int) := by omega
    rw [e]
    by_cases hp : (x3.length : Int) > 0
    · obtain ⟨b, a1, s1, e1, _, p1, q1⟩ := one_ok hu s h0 (by omega) 24 (by decide) (by decide)
      obtain ⟨L, a', s', hE, hL, r1, r2⟩ := keys_j2 hu x3 b (a := a1) s1 (by omega) (by omega) (by omega) (fun _ => by omega)
      refine ⟨L, a', s', Ev.succ ?_, hL, by omega, by omega⟩
      simp only [spec_l1Cur_keys.l0, show ((x3.length : Int) < (x3.length : Int)) = False from eq_false (by omega), if_false, eq_true hp, if_true, e1, Option.bind_some]
      exact hE
    · obtain ⟨L, a', s', hE, hL, r1, r2⟩ := keys_j2 hu x3 false (a := a) s (by omega) (by omega) (by omega) (fun h => by cases h)
      refine ⟨L, a', s', Ev.succ ?_, hL, by omega, by omega⟩
      simp only [spec_l1Cur_keys.l0, show ((x3.length : Int) < (x3.length : Int)) = False from eq_false (by omega), if_false, eq_false hp]
      exact hE
  | succ d ih =>
    intro x3 x4 a s hd h0 h1
    obtain ⟨z1, z2, z3, z4, a1, s1, e1, p1, q1⟩ := key_ok hu s h0 (by omega) x4
    have hlt : ((x3.length : Int) < (N : Int)) = True := eq_true (by omega)
    have hsm : (x3.length < 3518437208883) = True := eq_true (by omega)
    by_cases hp : (x3.length : Int) > 0
    · obtain ⟨b, a2, s2, e2, _, p2, q2⟩ := one_ok hu s1 (a := a1) (by omega) (by omega) 5 (by decide) (by decide)
      obtain ⟨y, a3, s3, e3, _, p3, q3⟩ := among_ok hu s2 (a := a2) (by omega) (by omega) [1, 5, 10, 10, 25] (by decide) (by decide)
      cases b with
      | true =>
        have hw : wrap64 ((x3.length : Int) - 1) = ((x3.length - 1 : Nat) : Int) := wrap_pred (by omega) (by omega)
        obtain ⟨L, a', s', hE, hL, r1, r2⟩ := ih (x3 ++ [(⟨x4, (rd_T52 x3 ((x3.length - 1 : Nat) : Int)).f1, (rd_T52 x3 ((x3.length - 1 : Nat) : Int)).f2, (rd_T52 x3 ((x3.length - 1 : Nat) : Int)).f3, (rd_T52 x3 ((x3.length - 1 : Nat) : Int)).f4⟩ : S52)]) (wrap64 (x4 + y)) a3 s3 (by rw [List.length_append, List.length_singleton]; omega) (by omega) (by omega)
        refine ⟨L, a', s', Ev.succ ?_, hL, by omega, by omega⟩
        simp only [spec_l1Cur_keys.l0, hlt, if_true]
        refine Ev.bind e1 ?_
        simp only [if_true, Option.bind_some, eq_true hp, e2, hw, nat_nonneg, show (((x3.length - 1 : Nat) : Int) < (x3.length : Int)) = True from eq_true (by omega), hsm, e3]
        exact hE
      | false =>
        obtain ⟨L, a', s', hE, hL, r1, r2⟩ := ih (x3 ++ [(⟨x4, z1, z2, z3, z4⟩ : S52)]) (wrap64 (x4 + y)) a3 s3 (by rw [List.length_append, List.length_singleton]; omega) (by omega) (by omega)
        refine ⟨L, a', s', Ev.succ ?_, hL, by omega, by omega⟩
        simp only [spec_l1Cur_keys.l0, hlt, if_true]
        refine Ev.bind e1 ?_
        simp only [if_true, Option.bind_some, eq_true hp, e2, Bool.false_eq_true, if_false, hsm, e3]
        exact hE
    · obtain ⟨y, a3, s3, e3, _, p3, q3⟩ := among_ok hu s1 (a := a1) (by omega) (by omega) [1, 5, 10, 10, 25] (by decide) (by decide)
      obtain ⟨L, a', s', hE, hL, r1, r2⟩ := ih (x3 ++ [(⟨x4, z1, z2, z3, z4⟩ : S52)]) (wrap64 (x4 + y)) a3 s3 (by rw [List.length_append, List.length_singleton]; omega) (by omega) (by omega)
      refine ⟨L, a', s', Ev.succ ?_, hL, by omega, by omega⟩
      simp only [spec_l1Cur_keys.l0, hlt, if_true]
      refine Ev.bind e1 ?_
      simp only [if_true, Option.bind_some, eq_false hp, if_false, hsm, e3]
      exact hE
theorem keys_ok {l : List Int} (hu : U8 l) {a : Int} (s : Int) (h0 : 0 ≤ a) (h1 : a ≤ 999999997000) : ∃ L a' s', Ev (fun k => spec_l1Cur_keys.f k l a s) (L, a', s') ∧ L.length ≤ 16 ∧ a ≤ a' ∧ a' ≤ a + 400 := by
  obtain ⟨f, a1, s1, e1, _, p1, q1⟩ := pick_ok hu s h0 (by omega) 5 (by decide) (by decide)
  obtain ⟨n, a2, s2, e2, ⟨n0, n1⟩, p2, q2⟩ := pick_ok hu s1 (a := a1) (by omega) (by omega) 6 (by decide) (by decide)
  obtain ⟨b, a3, s3, e3, _, p3, q3⟩ := one_ok hu s2 (a := a2) (by omega) (by omega) 12 (by decide) (by decide)
  unfold spec_l1Cur_keys.f
  simp only [e1, e2, e3, Option.bind_some]
  cases b with
  | true =>
    obtain ⟨m, a4, s4, e4, ⟨m0, m1⟩, p4, q4⟩ := pick_ok hu s3 (a := a3) (by omega) (by omega) 2 (by decide) (by decide)
    obtain ⟨N, hN⟩ : ∃ N : Nat, 15 + m = (N : Int) := ⟨(15 + m).toNat, by omega⟩
    obtain ⟨L, a', s', hE, hL, r1, r2⟩ := keys_l0 hu N (by omega) N [] f a4 s4 (by simp) (by omega) (by omega)
    refine ⟨L, a', s', ?_, hL, by omega, by omega⟩
    simp only [if_true, e4, Option.bind_some]
    rw [wrap_id (by omega) (by omega), hN]
    refine Ev.succ ?_
    simp only [spec_l1Cur_keys.j0]
    exact hE
  | false =>
    obtain ⟨N, hN⟩ : ∃ N : Nat, n = (N : Int) := ⟨n.toNat, by omega⟩
    obtain ⟨L, a', s', hE, hL, r1, r2⟩ := keys_l0 hu N (by omega) N [] f a3 s3 (by simp) (by omega) (by omega)
    refine ⟨L, a', s', ?_, hL, by omega, by omega⟩
    simp only [Bool.false_eq_true, if_false]
    rw [hN]
    refine Ev.succ ?_
    simp only [spec_l1Cur_keys.j0]
    exact hE
theorem speedOf_ok {l : List Int} (hu : U8 l) {a : Int} (s : Int) (h0 : 0 ≤ a) (h1 : a ≤ 999999999900) : Res (spec_l1Cur_speedOf.f l a s) a 4 (fun _ => True) := by
  obtain ⟨y2, a2, s2, e2, _, p2, q2⟩ := among_ok hu s h0 (by omega) [20, 0, 361] (by decide) (by decide)
  obtain ⟨y3, a3, s3, e3, _, p3, q3⟩ := among_ok hu s2 (a := a2) (by omega) (by omega) [1, 5, 9, 10, 30, 360, y2] (by simp) (by simp)
  unfold spec_l1Cur_speedOf.f
  simp only [e2, e3, Option.bind_some]
  exact ⟨_, _, _, rfl, trivial, by omega, by omega⟩
/-- Division downward by a number above 0. -/
def dnOf (c m : Int) : Int := if Int.tmod c m < 0 then Int.tdiv c m - 1 else Int.tdiv c m
theorem prod_small (d n : Int) (hd : -1000 ≤ d ∧ d ≤ 1000) (hn : -100000 ≤ n ∧ n ≤ 100000) : -100000000 ≤ d * n ∧ d * n ≤ 100000000 := by
  have h : (d * n).natAbs ≤ 1000 * 100000 := by
    rw [Int.natAbs_mul]
    exact Nat.mul_le_mul (by omega) (by omega)
  omega
theorem tdiv_small (c m : Int) : (Int.tdiv c m).natAbs ≤ c.natAbs := by
  rw [Int.natAbs_tdiv]
  exact Nat.div_le_self _ _
def btwOf (p q n m : Int) : Int := p + dnOf ((q - p) * n) m
theorem avBetween_eq (p q n m : Int) (hp : -400 ≤ p ∧ p ≤ 400) (hq : -400 ≤ q ∧ q ≤ 400) (hn : 0 ≤ n ∧ n ≤ 100000) (hm : 0 < m) : spec_avBetween.f p q n m = some (btwOf p q n m) := by
  have h1 := prod_small (q - p) n (by omega) (by omega)
  unfold spec_avBetween.f spec_avDown.f btwOf dnOf
  rw [wrap_id (x := q - p) (by omega) (by omega), wrap_id (x := (q - p) * n) (by omega) (by omega)]
  generalize (q - p) * n = c at *
  have h2 := tdiv_small c m
  have h3 : (m = 0) = False := eq_false (by omega)
  simp only [h3, if_false]
  rw [wrap_id (x := Int.tdiv c m) (by omega) (by omega), wrap_id (x := Int.tdiv c m - 1) (by omega) (by omega)]
  by_cases hc : c < 0
  · have h4 : Int.tmod c m ≤ 0 := by
      have h5 : Int.tmod c m = -(Int.tmod (-c) m) := by rw [Int.neg_tmod]; omega
      have h6 := Int.tmod_nonneg (a := -c) m (by omega)
      omega
    simp only [eq_true hc, if_true]
    by_cases hz : Int.tmod c m = 0
    · have h5 : (Int.tmod c m < 0) = False := eq_false (by omega)
      simp only [hz, h5, if_true, if_false, Option.bind_some, Int.lt_irrefl]
      rw [wrap_id (by omega) (by omega)]
    · have h5 : (Int.tmod c m < 0) = True := eq_true (by omega)
      simp only [eq_false hz, h5, if_true, if_false, Option.bind_some]
      rw [wrap_id (by omega) (by omega)]
  · have h6 := Int.tmod_nonneg (a := c) m (by omega)
    have h5 : (Int.tmod c m < 0) = False := eq_false (by omega)
    simp only [eq_false hc, h5, if_false, Option.bind_some]
    rw [wrap_id (by omega) (by omega)]
theorem even_eq (p q fr a b : Int) (hp : -400 ≤ p ∧ p ≤ 400) (hq : -400 ≤ q ∧ q ≤ 400) (ha : 0 ≤ a ∧ a ≤ fr) (hb : fr ≤ b ∧ b ≤ 9999) : impl_between.even p q fr a b = btwOf p q (fr - a) (b - a) := by
  have h1 := prod_small (q - p) (fr - a) (by omega) (by omega)
  unfold impl_between.even impl_between.div btwOf dnOf
  rw [wrap_id (x := q - p) (by omega) (by omega), wrap_id (x := fr - a) (by omega) (by omega), wrap_id (x := b - a) (by omega) (by omega), wrap_id (x := (q - p) * (fr - a)) (by omega) (by omega)]
  generalize (q - p) * (fr - a) = c at *
  have h2 := tdiv_small c (b - a)
  rw [wrap_id (x := Int.tdiv c (b - a)) (by omega) (by omega), wrap_id (x := Int.tdiv c (b - a) - 1) (by omega) (by omega)]
  split <;> rw [wrap_id (by omega) (by omega)]
def btwK (x y : S52) (a : Int) : Int × Int × Int × Int × Int × Bool := (a, btwOf x.f1 y.f1 (a - x.f0) (y.f0 - x.f0), btwOf x.f2 y.f2 (a - x.f0) (y.f0 - x.f0), btwOf x.f3 y.f3 (a - x.f0) (y.f0 - x.f0), btwOf x.f4 y.f4 (a - x.f0) (y.f0 - x.f0), true)
def poseS (l : List S52) (a : Int) : Nat → Nat → Int × Int × Int × Int × Int × Bool
  | 0, _ => (0, 0, 0, 0, 0, false)
  | d + 1, j => if (kat l j).f0 = a then ((kat l j).f0, (kat l j).f1, (kat l j).f2, (kat l j).f3, (kat l j).f4, true) else if j + 1 < l.length ∧ (kat l j).f0 < a ∧ a < (kat l (j + 1)).f0 then btwK (kat l j) (kat l (j + 1)) a else poseS l a d (j + 1)
theorem specPose_ev {l : List S52} (hG : Good l) (a : Int) (ha : 0 ≤ a ∧ a ≤ 9999) : ∀ d j, j + d = l.length → Ev (fun k => spec_PoseAt.l0 k l a l (l.length : Int) (j : Int)) (poseS l a d j) := by
  have hlen := hG.len
  intro d
  induction d with
  | zero =>
    intro j hj
    refine Ev.succ ?_
    have h1 : ((j : Int) < (l.length : Int)) = False := eq_false (by omega)
    simp only [spec_PoseAt.l0, h1, if_false, poseS]
    exact Ev.now _
  | succ d ih =>
    intro j hj
    have ih' := ih (j + 1) (by omega)
    refine Ev.succ ?_
    have h1 : ((j : Int) < (l.length : Int)) = True := eq_true (by omega)
    simp only [spec_PoseAt.l0, h1, if_true, nat_nonneg, rdk, wrap_succ (show j < 4611686018427387904 by omega), poseS]
    by_cases h2 : (kat l j).f0 = a
    · simp only [eq_true h2, if_true]
      exact Ev.now _
    · simp only [eq_false h2, if_false]
      by_cases h3 : j + 1 < l.length
      · have h3' : (((j + 1 : Nat) : Int) < (l.length : Int)) = True := eq_true (by omega)
        simp only [h3', if_true, eq_true h3, true_and]
        by_cases h4 : (kat l j).f0 < a
        · simp only [eq_true h4, if_true, true_and]
          refine Ev.succ ?_
          by_cases h5 : a < (kat l (j + 1)).f0
          · have hx := hG.key j (by omega)
            have hy := hG.key (j + 1) (by omega)
            simp only [spec_PoseAt.j2, eq_true h5, decide_true, if_true, wrap_succ (show j < 4611686018427387904 by omega), nat_nonneg, h3', rdk]
            rw [wrap_id (x := a - (kat l j).f0) (by omega) (by omega), wrap_id (x := (kat l (j + 1)).f0 - (kat l j).f0) (by omega) (by omega)]
            rw [avBetween_eq _ _ _ _ (by omega) (by omega) (by omega) (by omega), avBetween_eq _ _ _ _ (by omega) (by omega) (by omega) (by omega), avBetween_eq _ _ _ _ (by omega) (by omega) (by omega) (by omega), avBetween_eq _ _ _ _ (by omega) (by omega) (by omega) (by omega)]
            simp only [Option.bind_some]
            exact Ev.now _
          · simp only [spec_PoseAt.j2, eq_false h5, decide_false, if_false, wrap_succ (show j < 4611686018427387904 by omega), Bool.false_eq_true]
            exact ih'
        · simp only [eq_false h4, if_false, false_and]
          refine Ev.succ ?_
          simp only [spec_PoseAt.j2, if_false, wrap_succ (show j < 4611686018427387904 by omega), Bool.false_eq_true]
          exact ih'
      · have h3' : (((j + 1 : Nat) : Int) < (l.length : Int)) = False := eq_false (by omega)
        simp only [h3', if_false, eq_false h3, false_and]
        refine Ev.succ ?_
        simp only [spec_PoseAt.j2, if_false, wrap_succ (show j < 4611686018427387904 by omega), Bool.false_eq_true]
        exact ih'
theorem implPose_ev {l : List S52} (hG : Good l) (a : Int) : ∀ d j, j + d = l.length → (0 < j → (kat l (j - 1)).f0 ≠ a ∧ ¬ (j < l.length ∧ (kat l (j - 1)).f0 < a ∧ a < (kat l j).f0)) → Ev (fun k => impl_PoseAt.l0 k l a l (l.length : Int) (j : Int)) (poseS l a d j) := by
  have hlen := hG.len
  intro d
  induction d with
  | zero =>
    intro j hj _
    refine Ev.succ ?_
    have h1 : ((j : Int) < (l.length : Int)) = False := eq_false (by omega)
    simp only [impl_PoseAt.l0, h1, if_false, poseS]
    exact Ev.now _
  | succ d ih =>
    intro j hj hinv
    refine Ev.succ ?_
    have h1 : ((j : Int) < (l.length : Int)) = True := eq_true (by omega)
    simp only [impl_PoseAt.l0, h1, if_true, nat_nonneg, rdk, wrap_succ (show j < 4611686018427387904 by omega), poseS, within_eq, Option.bind_some]
    by_cases h2 : (kat l j).f0 = a
    · simp only [eq_true h2, if_true]
      exact Ev.now _
    · simp only [eq_false h2, if_false]
      have rest : Ev (fun k => impl_PoseAt.l0 k l a l (l.length : Int) ((j + 1 : Nat) : Int)) (if j + 1 < l.length ∧ (kat l j).f0 < a ∧ a < (kat l (j + 1)).f0 then btwK (kat l j) (kat l (j + 1)) a else poseS l a d (j + 1)) := by
        by_cases h3 : j + 1 < l.length ∧ (kat l j).f0 < a ∧ a < (kat l (j + 1)).f0
        · rw [if_pos h3]
          obtain ⟨h4, h5, h6⟩ := h3
          have hx := hG.key j (by omega)
          have hy := hG.key (j + 1) (by omega)
          refine Ev.succ ?_
          have g1 : (((j + 1 : Nat) : Int) < (l.length : Int)) = True := eq_true (by omega)
          have g2 : ((kat l (j + 1)).f0 = a) = False := eq_false (by omega)
          have g3 : (((j + 1 : Nat) : Int) > 0) = True := eq_true (by omega)
          have g4 : inB a (kat l j).f0 (kat l (j + 1)).f0 = true := by simp [inB]; omega
          have g5 : (wrap64 ((kat l (j + 1)).f0 - (kat l j).f0) = 0) = False := by rw [wrap_id (by omega) (by omega)]; exact eq_false (by omega)
          simp only [impl_PoseAt.l0, g1, g2, g3, if_true, if_false, nat_nonneg, rdk, wrap_pred (show 0 < j + 1 by omega) (show j + 1 < 4611686018427387904 by omega), Nat.add_sub_cancel, h1, within_eq, Option.bind_some, g4, impl_between.f, g5]
          rw [even_eq _ _ _ _ _ (by omega) (by omega) (by omega) (by omega), even_eq _ _ _ _ _ (by omega) (by omega) (by omega) (by omega), even_eq _ _ _ _ _ (by omega) (by omega) (by omega) (by omega), even_eq _ _ _ _ _ (by omega) (by omega) (by omega) (by omega)]
          exact Ev.now _
        · rw [if_neg h3]
          exact ih (j + 1) (by omega) (fun _ => ⟨by simpa using h2, by simpa using h3⟩)
      by_cases h0 : j = 0
      · subst h0
        have g3 : (((0 : Nat) : Int) > 0) = False := eq_false (by omega)
        simp only [g3, if_false]
        exact rest
      · have g3 : ((j : Int) > 0) = True := eq_true (by omega)
        have hi := hinv (by omega)
        have g4 : inB a (kat l (j - 1)).f0 (kat l j).f0 = false := by
          simp only [inB, decide_eq_false_iff_not]
          intro h
          exact hi.2 ⟨by omega, by omega, by omega⟩
        have g6 : (((j - 1 : Nat) : Int) < (l.length : Int)) = True := eq_true (by omega)
        simp only [g3, if_true, wrap_pred (show 0 < j by omega) (show j < 4611686018427387904 by omega), nat_nonneg, g6, rdk, g4]
        exact rest
theorem poseS_out {l : List S52} (hG : Good l) (a : Int) (ha : ¬ (0 ≤ a ∧ a ≤ 9999)) : ∀ d j, j + d = l.length → poseS l a d j = (0, 0, 0, 0, 0, false) := by
  intro d
  induction d with
  | zero => intro j _; rfl
  | succ d ih =>
    intro j hj
    have hx := hG.key j (by omega)
    rw [poseS, if_neg (by omega), ih (j + 1) (by omega), if_neg]
    rintro ⟨h1, h2, h3⟩
    have hy := hG.key (j + 1) h1
    omega
def poseR (l : List S52) (a : Int) : Int × Int × Int × Int × Int × Bool := if goodB l then poseS l a l.length 0 else (0, 0, 0, 0, 0, false)
theorem specPoseAt_ev (l : List S52) (a : Int) (hl : l.length < 4611686018427387904) : Ev (fun k => spec_PoseAt.f k l a) (poseR l a) := by
  unfold spec_PoseAt.f poseR
  refine Ev.bind (avGood_ev l hl) ?_
  rcases Bool.eq_false_or_eq_true (goodB l) with hg | hg
  · have hG := (goodB_iff l).1 hg
    simp only [hg, if_true, spec_avFrame.f, l1In_eq, Option.bind_some]
    refine Ev.succ ?_
    by_cases ha : 0 ≤ a ∧ a ≤ 9999
    · have h1 : inB a 0 9999 = true := decide_eq_true ha
      simp only [spec_PoseAt.j0, h1]
      exact specPose_ev hG a ha _ 0 (by omega)
    · have h1 : inB a 0 9999 = false := decide_eq_false ha
      simp only [spec_PoseAt.j0, h1]
      rw [poseS_out hG a ha _ 0 (by omega)]
      exact Ev.now _
  · simp only [hg]
    refine Ev.succ ?_
    simp only [spec_PoseAt.j0]
    exact Ev.now _
theorem implPoseAt_ev (l : List S52) (a : Int) (hl : l.length < 4611686018427387904) : Ev (fun k => impl_PoseAt.f k l a) (poseR l a) := by
  unfold impl_PoseAt.f poseR
  refine Ev.bind (areKeys_ev l hl) ?_
  rcases Bool.eq_false_or_eq_true (goodB l) with hg | hg
  · have hG := (goodB_iff l).1 hg
    simp only [hg, if_true]
    exact implPose_ev hG a _ 0 (by omega) (fun h => by omega)
  · simp only [hg]
    exact Ev.now _
def ad (x y : Int) : Int := mx (x - y) (y - x)
theorem mx_ge (x y : Int) : x ≤ mx x y ∧ y ≤ mx x y ∧ (mx x y = x ∨ mx x y = y) := by unfold mx; split <;> omega
theorem ad_nonneg (x y : Int) : 0 ≤ ad x y := by have := mx_ge (x - y) (y - x); unfold ad; omega
/-- The four differences of part i. -/
def difs (a b : S52) : List Int := [ad a.f1 b.f1, ad a.f2 b.f2, ad a.f3 b.f3, ad a.f4 b.f4]
def KIn (x : S52) : Prop := (0 ≤ x.f0 ∧ x.f0 ≤ 9999) ∧ (-90 ≤ x.f1 ∧ x.f1 ≤ 180) ∧ (0 ≤ x.f2 ∧ x.f2 ≤ 150) ∧ (-70 ≤ x.f3 ∧ x.f3 ≤ 70) ∧ (0 ≤ x.f4 ∧ x.f4 ≤ 90)

theorem rd4_0 (a b c d : Int) : rd [a, b, c, d] (0 : Int) = a := rfl
theorem rd4_1 (a b c d : Int) : rd [a, b, c, d] (1 : Int) = b := rfl
theorem rd4_2 (a b c d : Int) : rd [a, b, c, d] (2 : Int) = c := rfl
theorem rd4_3 (a b c d : Int) : rd [a, b, c, d] (3 : Int) = d := rfl
theorem w1 : wrap64 ((0 : Int) + 1) = 1 := by rw [wrap_id (by decide) (by decide)]; rfl
theorem w2 : wrap64 ((1 : Int) + 1) = 2 := by rw [wrap_id (by decide) (by decide)]; rfl
theorem w3 : wrap64 ((2 : Int) + 1) = 3 := by rw [wrap_id (by decide) (by decide)]; rfl
theorem w4 : wrap64 ((3 : Int) + 1) = 4 := by rw [wrap_id (by decide) (by decide)]; rfl

theorem dist_eq (x y : Int) (h : -1000 ≤ x ∧ x ≤ 1000) (h' : -1000 ≤ y ∧ y ≤ 1000) : impl_distance.f x y = some (ad x y) := by
  unfold impl_distance.f ad
  rw [wrap_id (by omega) (by omega), wrap_id (by omega) (by omega)]
theorem l1Abs_eq (x y : Int) (h : -1000 ≤ x ∧ x ≤ 1000) (h' : -1000 ≤ y ∧ y ≤ 1000) : spec_l1Abs.f (wrap64 (x - y)) = some (ad x y) := by
  unfold spec_l1Abs.f spec_l1Most.f ad mx
  rw [wrap_id (x := x - y) (by omega) (by omega), wrap_id (by omega) (by omega)]
  split <;> split <;> simp <;> omega

theorem partChanges_ev (l : List S52) (i : Nat) (hi : i + 1 < l.length) (hl : l.length < 4611686018427387904) (ha : KIn (kat l i)) (hb : KIn (kat l (i + 1))) :
    Ev (fun k => impl_partChanges.f k l (i : Int)) (difs (kat l i) (kat l (i + 1))) := by
  obtain ⟨_, a1, a2, a3, a4⟩ := ha
  obtain ⟨_, b1, b2, b3, b4⟩ := hb
  have h1 : ((i : Int) < (l.length : Int)) = True := eq_true (by omega)
  have h2 : (((i + 1 : Nat) : Int) < (l.length : Int)) = True := eq_true (by omega)
  unfold impl_partChanges.f difs
  simp only [nat_nonneg, h1, if_true, impl_Key_angles.f, Option.bind_some, rdk, List.length_cons, List.length_nil]
  refine Ev.succ (Ev.succ (Ev.succ (Ev.succ (Ev.succ ?_))))
  simp only [impl_partChanges.l0, wrap_succ (show i < 4611686018427387904 by omega), nat_nonneg, h2, if_true, impl_Key_angles.f, Option.bind_some, rdk, List.length_cons, List.length_nil, rd4_0, rd4_1, rd4_2, rd4_3, w1, w2, w3, w4, List.nil_append, List.cons_append,
    dist_eq _ _ (show -1000 ≤ (kat l i).f1 ∧ (kat l i).f1 ≤ 1000 by omega) (show -1000 ≤ (kat l (i + 1)).f1 ∧ (kat l (i + 1)).f1 ≤ 1000 by omega),
    dist_eq _ _ (show -1000 ≤ (kat l i).f2 ∧ (kat l i).f2 ≤ 1000 by omega) (show -1000 ≤ (kat l (i + 1)).f2 ∧ (kat l (i + 1)).f2 ≤ 1000 by omega),
    dist_eq _ _ (show -1000 ≤ (kat l i).f3 ∧ (kat l i).f3 ≤ 1000 by omega) (show -1000 ≤ (kat l (i + 1)).f3 ∧ (kat l (i + 1)).f3 ≤ 1000 by omega),
    dist_eq _ _ (show -1000 ≤ (kat l i).f4 ∧ (kat l i).f4 ≤ 1000 by omega) (show -1000 ≤ (kat l (i + 1)).f4 ∧ (kat l (i + 1)).f4 ≤ 1000 by omega)]
  simp
  exact Ev.now _

def tstep (s : Int × Int) (i n : Int) : Int × Int := if n > s.2 then (i, n) else s
def turn4 (a b c d : Int) : Int × Int := tstep (tstep (tstep (tstep (0, -1) 0 a) 1 b) 2 c) 3 d
def turnOf (x y : S52) : Int × Int := turn4 (ad x.f1 y.f1) (ad x.f2 y.f2) (ad x.f3 y.f3) (ad x.f4 y.f4)
theorem avTurn_ev (x y : S52) (ha : KIn x) (hb : KIn y) : Ev (fun k => spec_avTurn.f k x.f0 x.f1 x.f2 x.f3 x.f4 y.f0 y.f1 y.f2 y.f3 y.f4) (turnOf x y) := by
  obtain ⟨_, a1, a2, a3, a4⟩ := ha
  obtain ⟨_, b1, b2, b3, b4⟩ := hb
  unfold spec_avTurn.f turnOf turn4
  simp only [spec_avAngles.f, Option.bind_some, List.length_cons, List.length_nil]
  have e1 := l1Abs_eq x.f1 y.f1 (by omega) (by omega)
  have e2 := l1Abs_eq x.f2 y.f2 (by omega) (by omega)
  have e3 := l1Abs_eq x.f3 y.f3 (by omega) (by omega)
  have e4 := l1Abs_eq x.f4 y.f4 (by omega) (by omega)
  generalize ad x.f1 y.f1 = p1 at *
  generalize ad x.f2 y.f2 = p2 at *
  generalize ad x.f3 y.f3 = p3 at *
  generalize ad x.f4 y.f4 = p4 at *
  have step : ∀ (s : Int × Int) (i : Int) (n : Int) (g : Nat → Int × Int → Option (Int × Int)) (r : Int × Int), Ev (fun k => g k (tstep s i n)) r → Ev (fun k => if n > s.2 then g k (i, n) else g k s) r := by
    intro s i n g r h
    unfold tstep at h
    by_cases hc : n > s.2
    · simpa only [eq_true hc, if_true] using h
    · simpa only [eq_false hc, if_false] using h
  refine Ev.succ ?_
  simp only [spec_avTurn.l0, List.length_cons, List.length_nil, rd4_0, e1, Option.bind_some, w1]
  refine step (0, -1) 0 p1 (fun k s => spec_avTurn.l0 k [x.f1, x.f2, x.f3, x.f4] [y.f1, y.f2, y.f3, y.f4] s.1 s.2 _ 1) _ ?_
  refine Ev.succ ?_
  simp only [spec_avTurn.l0, List.length_cons, List.length_nil, rd4_1, e2, Option.bind_some, w2]
  refine step (tstep (0, -1) 0 p1) 1 p2 (fun k s => spec_avTurn.l0 k [x.f1, x.f2, x.f3, x.f4] [y.f1, y.f2, y.f3, y.f4] s.1 s.2 _ 2) _ ?_
  refine Ev.succ ?_
  simp only [spec_avTurn.l0, List.length_cons, List.length_nil, rd4_2, e3, Option.bind_some, w3]
  refine step (tstep (tstep (0, -1) 0 p1) 1 p2) 2 p3 (fun k s => spec_avTurn.l0 k [x.f1, x.f2, x.f3, x.f4] [y.f1, y.f2, y.f3, y.f4] s.1 s.2 _ 3) _ ?_
  refine Ev.succ ?_
  simp only [spec_avTurn.l0, List.length_cons, List.length_nil, rd4_3, e4, Option.bind_some, w4]
  refine step (tstep (tstep (tstep (0, -1) 0 p1) 1 p2) 2 p3) 3 p4 (fun k s => spec_avTurn.l0 k [x.f1, x.f2, x.f3, x.f4] [y.f1, y.f2, y.f3, y.f4] s.1 s.2 _ 4) _ ?_
  refine Ev.succ ?_
  simp only [spec_avTurn.l0]
  exact Ev.now _

def dmax (x y : S52) : Int := Lib.maxOf (difs x y)
theorem turn_facts (a b c d : Int) (ha : 0 ≤ a) (hb : 0 ≤ b) (hc : 0 ≤ c) (hd : 0 ≤ d) :
    (turn4 a b c d).2 = Lib.maxOf [a, b, c, d] ∧ 0 ≤ (turn4 a b c d).1 ∧ (turn4 a b c d).1 ≤ 3 ∧
    (if Lib.maxOf [a, b, c, d] = a then (turn4 a b c d).1 = 0 else if Lib.maxOf [a, b, c, d] = b then (turn4 a b c d).1 = 1 else if Lib.maxOf [a, b, c, d] = c then (turn4 a b c d).1 = 2 else (turn4 a b c d).1 = 3) ∧ (Lib.maxOf [a, b, c, d] = a ∨ Lib.maxOf [a, b, c, d] = b ∨ Lib.maxOf [a, b, c, d] = c ∨ Lib.maxOf [a, b, c, d] = d) := by
  have e : Lib.maxOf [a, b, c, d] = max (max (max (max a a) b) c) d := rfl
  rw [e]
  unfold turn4 tstep
  by_cases h1 : b > a <;> by_cases h2 : c > b <;> by_cases h3 : c > a <;> by_cases h4 : d > c <;> by_cases h5 : d > b <;> by_cases h6 : d > a <;>
    first
    | (exfalso; omega)
    | (have h7 : max (max (max (max a a) b) c) d = d := by omega
       rw [h7]
       simp [show a > -1 by omega, h1, h2, h3, h4, h5, h6]
       done)
    | (have h7 : max (max (max (max a a) b) c) d = d := by omega
       rw [h7]
       simp [show a > -1 by omega, h1, h2, h3, h4, h5, h6]
       omega)
    | (have h7 : max (max (max (max a a) b) c) d = c := by omega
       rw [h7]
       simp [show a > -1 by omega, h1, h2, h3, h4, h5, h6]
       done)
    | (have h7 : max (max (max (max a a) b) c) d = c := by omega
       rw [h7]
       simp [show a > -1 by omega, h1, h2, h3, h4, h5, h6]
       omega)
    | (have h7 : max (max (max (max a a) b) c) d = b := by omega
       rw [h7]
       simp [show a > -1 by omega, h1, h2, h3, h4, h5, h6]
       done)
    | (have h7 : max (max (max (max a a) b) c) d = b := by omega
       rw [h7]
       simp [show a > -1 by omega, h1, h2, h3, h4, h5, h6]
       omega)
    | (have h7 : max (max (max (max a a) b) c) d = a := by omega
       rw [h7]
       simp [show a > -1 by omega, h1, h2, h3, h4, h5, h6]
       done)
    | (have h7 : max (max (max (max a a) b) c) d = a := by omega
       rw [h7]
       simp [show a > -1 by omega, h1, h2, h3, h4, h5, h6]
       omega)

def sp (l : List S52) (i : Nat) : Int := (dmax (kat l i) (kat l (i + 1)) + ((kat l (i + 1)).f0 - (kat l i).f0) - 1) / ((kat l (i + 1)).f0 - (kat l i).f0)
theorem dmax_bounds (x y : S52) (ha : KIn x) (hb : KIn y) : 0 ≤ dmax x y ∧ dmax x y ≤ 270 := by
  obtain ⟨_, a1, a2, a3, a4⟩ := ha
  obtain ⟨_, b1, b2, b3, b4⟩ := hb
  have e : dmax x y = max (max (max (max (ad x.f1 y.f1) (ad x.f1 y.f1)) (ad x.f2 y.f2)) (ad x.f3 y.f3)) (ad x.f4 y.f4) := rfl
  rw [e]
  have h1 : 0 ≤ ad x.f1 y.f1 ∧ ad x.f1 y.f1 ≤ 270 := by unfold ad mx; split <;> omega
  have h2 : 0 ≤ ad x.f2 y.f2 ∧ ad x.f2 y.f2 ≤ 270 := by unfold ad mx; split <;> omega
  have h3 : 0 ≤ ad x.f3 y.f3 ∧ ad x.f3 y.f3 ≤ 270 := by unfold ad mx; split <;> omega
  have h4 : 0 ≤ ad x.f4 y.f4 ∧ ad x.f4 y.f4 ≤ 270 := by unfold ad mx; split <;> omega
  omega
theorem turnOf_2 (x y : S52) : (turnOf x y).2 = dmax x y := (turn_facts _ _ _ _ (ad_nonneg _ _) (ad_nonneg _ _) (ad_nonneg _ _) (ad_nonneg _ _)).1
theorem sp_nonneg {l : List S52} (hg : Good l) (i : Nat) (hi : i + 1 < l.length) : 0 ≤ sp l i := by
  have h1 := hg.inc i hi
  have h2 := dmax_bounds _ _ (hg.key i (by omega)) (hg.key (i + 1) hi)
  unfold sp
  exact Int.ediv_nonneg (by omega) (by omega)
theorem sp_le {l : List S52} (hg : Good l) (i : Nat) (hi : i + 1 < l.length) : sp l i ≤ 270 := by
  have h1 := hg.inc i hi
  have h2 := dmax_bounds _ _ (hg.key i (by omega)) (hg.key (i + 1) hi)
  unfold sp
  have hf : 0 < (kat l (i + 1)).f0 - (kat l i).f0 := by omega
  clear h1
  generalize dmax (kat l i) (kat l (i + 1)) = m at *
  generalize (kat l (i + 1)).f0 - (kat l i).f0 = f at *
  have : (m + f - 1) / f < 271 := by
    apply Int.ediv_lt_of_lt_mul hf
    have : f * 1 ≤ f * 270 := Int.mul_le_mul_of_nonneg_left (by omega) (by omega)
    have h3 : 271 * f = 270 * f + f := by rw [show (271 : Int) = 270 + 1 from rfl, Int.add_mul, Int.one_mul]
    have h4 : 270 * 1 ≤ 270 * f := Int.mul_le_mul_of_nonneg_left (by omega) (by omega)
    omega
  omega
theorem tdiv_pos {a b : Int} (ha : 0 ≤ a) : Int.tdiv a b = a / b := Int.tdiv_eq_ediv_of_nonneg ha
theorem speed_arith (m f : Int) (hm : 0 ≤ m ∧ m ≤ 270) (hf : 0 < f ∧ f ≤ 9999) : wrap64 (Int.tdiv (wrap64 (wrap64 (m + f) - 1)) f) = (m + f - 1) / f := by
  rw [wrap_id (x := m + f) (by omega) (by omega), wrap_id (x := m + f - 1) (by omega) (by omega), tdiv_pos (by omega)]
  have h1 : 0 ≤ (m + f - 1) / f := Int.ediv_nonneg (by omega) (by omega)
  have h2 : (m + f - 1) / f ≤ m + f - 1 := Int.ediv_le_self _ (by omega)
  exact wrap_id (by omega) (by omega)
theorem speed_ev {l : List S52} (hg : Good l) (i : Nat) (hi : i + 1 < l.length) : Ev (fun k => impl_speed.f k l (i : Int)) (sp l i) := by
  have hlen := hg.len
  have h1 : ((i : Int) < (l.length : Int)) = True := eq_true (by omega)
  have h2 : (((i + 1 : Nat) : Int) < (l.length : Int)) = True := eq_true (by omega)
  have ha := hg.key i (by omega)
  have hb := hg.key (i + 1) hi
  have hc := hg.inc i hi
  have hd := dmax_bounds _ _ ha hb
  have he : wrap64 ((kat l (i + 1)).f0 - (kat l i).f0) = (kat l (i + 1)).f0 - (kat l i).f0 := wrap_id (by omega) (by omega)
  unfold impl_speed.f
  simp only [wrap_succ (show i < 4611686018427387904 by omega), nat_nonneg, h1, h2, if_true]
  refine Ev.bind (partChanges_ev l i hi (by omega) ha hb) ?_
  have hmax : slices_Max_int.f (difs (kat l i) (kat l (i + 1))) = some (dmax (kat l i) (kat l (i + 1))) := by
    unfold slices_Max_int.f difs dmax
    simp [difs]
  simp only [hmax, Option.bind_some, rdk, he, show ((kat l (i + 1)).f0 - (kat l i).f0 = 0) = False from eq_false (by omega), if_false, speed_arith _ _ hd (show 0 < (kat l (i + 1)).f0 - (kat l i).f0 ∧ (kat l (i + 1)).f0 - (kat l i).f0 ≤ 9999 by omega)]
  exact Ev.now _
theorem avSpeed_ev {l : List S52} (hg : Good l) (i : Nat) (hi : i + 1 < l.length) : Ev (fun k => spec_avSpeed.f k l (i : Int)) (sp l i) := by
  have hlen := hg.len
  have h1 : ((i : Int) < (l.length : Int)) = True := eq_true (by omega)
  have h2 : (((i + 1 : Nat) : Int) < (l.length : Int)) = True := eq_true (by omega)
  have ha := hg.key i (by omega)
  have hb := hg.key (i + 1) hi
  have hc := hg.inc i hi
  have hd := dmax_bounds _ _ ha hb
  have he : wrap64 ((kat l (i + 1)).f0 - (kat l i).f0) = (kat l (i + 1)).f0 - (kat l i).f0 := wrap_id (by omega) (by omega)
  unfold spec_avSpeed.f
  simp only [wrap_succ (show i < 4611686018427387904 by omega), nat_nonneg, h1, h2, if_true, rdk]
  refine Ev.bind (avTurn_ev _ _ ha hb) ?_
  simp only [turnOf_2, he, show ((kat l (i + 1)).f0 - (kat l i).f0 = 0) = False from eq_false (by omega), if_false, speed_arith _ _ hd (show 0 < (kat l (i + 1)).f0 - (kat l i).f0 ∧ (kat l (i + 1)).f0 - (kat l i).f0 ≤ 9999 by omega)]
  exact Ev.now _
/-- The first fastest of the first parts. -/
def bestOf (f : Nat → Int) : Nat → Nat
  | 0 => 0
  | j + 1 => if f j > f (bestOf f j) then j else bestOf f j
theorem bestOf_lt (f : Nat → Int) : ∀ j, 0 < j → bestOf f j < j
  | 1, _ => by simp [bestOf]
  | j + 2, _ => by
    have := bestOf_lt f (j + 1) (by omega)
    rw [bestOf]
    split <;> omega
theorem bestOf_le (f : Nat → Int) (j : Nat) : ∀ i, i < j → f i ≤ f (bestOf f j) := by
  induction j with
  | zero => intro i hi; omega
  | succ j ih =>
    intro i hi
    rw [bestOf]
    by_cases h : i = j
    · subst h
      split <;> omega
    · have := ih i (by omega)
      split <;> omega
def mostOf (f : Nat → Int) (j : Nat) : Int := if j = 0 then -1 else f (bestOf f j)

theorem len_pred {l : List S52} (h : l.length < 4611686018427387904) : wrap64 ((l.length : Int) - 1) = (l.length : Int) - 1 := wrap_id (by omega) (by omega)

theorem avFastest_ev {l : List S52} (hg : Good l) : Ev (fun k => spec_avFastest.f k l) ((bestOf (sp l) (l.length - 1) : Int), mostOf (sp l) (l.length - 1)) := by
  have hlen := hg.len
  unfold spec_avFastest.f
  have key := Ev.upto (L := fun k j => spec_avFastest.l0 k l (bestOf (sp l) j : Int) (mostOf (sp l) j) (j : Int)) (n := l.length - 1) (r := ((bestOf (sp l) (l.length - 1) : Int), mostOf (sp l) (l.length - 1)))
    (by
      refine Ev.succ ?_
      have h1 : (((l.length - 1 + 1 : Nat) : Int) < (l.length : Int)) = False := eq_false (by omega)
      simp only [spec_avFastest.l0, wrap_succ (show l.length - 1 < 4611686018427387904 by omega), h1, if_false]
      exact Ev.now _)
    (by
      intro j hj h
      refine Ev.succ ?_
      have h1 : (((j + 1 : Nat) : Int) < (l.length : Int)) = True := eq_true (by omega)
      simp only [spec_avFastest.l0, wrap_succ (show j < 4611686018427387904 by omega), h1, if_true]
      refine Ev.bind (avSpeed_ev hg j (by omega)) ?_
      have hp := sp_nonneg hg j (by omega)
      by_cases h0 : j = 0
      · subst h0
        have h2 : (sp l 0 > mostOf (sp l) 0) = True := eq_true (by simp [mostOf]; omega)
        simp only [h2, if_true]
        have e1 : bestOf (sp l) (0 + 1) = 0 := by simp [bestOf]
        have e2 : mostOf (sp l) (0 + 1) = sp l 0 := by simp [mostOf, e1, bestOf]
        rw [e1, e2] at h
        exact h
      · have e3 : mostOf (sp l) j = sp l (bestOf (sp l) j) := by simp [mostOf, h0]
        have e4 : mostOf (sp l) (j + 1) = sp l (bestOf (sp l) (j + 1)) := by simp [mostOf]
        by_cases hc : sp l j > sp l (bestOf (sp l) j)
        · have e5 : bestOf (sp l) (j + 1) = j := by rw [bestOf, if_pos hc]
          rw [e5] at h e4
          rw [e4] at h
          simp only [e3, eq_true hc, if_true]
          exact h
        · have e5 : bestOf (sp l) (j + 1) = bestOf (sp l) j := by rw [bestOf, if_neg hc]
          rw [e5] at h e4
          rw [e4] at h
          simp only [e3, eq_false hc, if_false]
          exact h)
    0 (Nat.zero_le _)
  simpa [bestOf, mostOf] using key

def keepsB (l : List S52) (most : Int) : Bool := decide (mostOf (sp l) (l.length - 1) ≤ most)
theorem avKeeps_ev {l : List S52} (hg : Good l) (most : Int) : Ev (fun k => spec_avKeeps.f k l most) (keepsB l most) := by
  unfold spec_avKeeps.f
  refine Ev.bind (avFastest_ev hg) ?_
  exact Ev.now _
theorem keepsSpeed_ev {l : List S52} (hg : Good l) (most : Int) (hm : 0 ≤ most) : Ev (fun k => impl_keepsSpeed.f k l most) (keepsB l most) := by
  have hlen := hg.len
  unfold impl_keepsSpeed.f
  rw [len_pred (by omega)]
  have key := Ev.all0 (L := fun k j => impl_keepsSpeed.l0 k l most ((l.length : Int) - 1) (j : Int)) (P := fun j => decide (sp l j ≤ most)) (n := l.length - 1) (a := true) (b := false)
    (by
      refine Ev.succ ?_
      have h1 : (((l.length - 1 : Nat) : Int) < (l.length : Int) - 1) = False := eq_false (by omega)
      simp only [impl_keepsSpeed.l0, h1, if_false]
      exact Ev.now _)
    (by
      intro j r hj hP h
      refine Ev.succ ?_
      have h1 : ((j : Int) < (l.length : Int) - 1) = True := eq_true (by omega)
      simp only [impl_keepsSpeed.l0, h1, if_true]
      refine Ev.bind (speed_ev hg j (by omega)) ?_
      have h2 : (sp l j > most) = False := eq_false (by have := of_decide_eq_true hP; omega)
      simp only [h2, if_false, wrap_succ (show j < 4611686018427387904 by omega)]
      exact h)
    (by
      intro j hj hP
      refine Ev.succ ?_
      have h1 : ((j : Int) < (l.length : Int) - 1) = True := eq_true (by omega)
      simp only [impl_keepsSpeed.l0, h1, if_true]
      refine Ev.bind (speed_ev hg j (by omega)) ?_
      have h2 : (sp l j > most) = True := eq_true (by have := of_decide_eq_false hP; omega)
      simp only [h2, if_true]
      exact Ev.now _)
  refine Ev.eq key ?_
  unfold keepsB
  by_cases h0 : l.length - 1 = 0
  · simp [h0, mostOf]
    omega
  · by_cases hc : mostOf (sp l) (l.length - 1) ≤ most
    · rw [if_pos, decide_eq_true hc]
      refine List.all_eq_true.2 fun i hi => ?_
      have hi := List.mem_range.1 hi
      have h3 := bestOf_le (sp l) (l.length - 1) i hi
      have h4 : mostOf (sp l) (l.length - 1) = sp l (bestOf (sp l) (l.length - 1)) := by simp [mostOf, h0]
      exact decide_eq_true (by omega)
    · rw [if_neg, decide_eq_false hc]
      intro ha
      have h3 := List.all_eq_true.1 ha (bestOf (sp l) (l.length - 1)) (List.mem_range.2 (bestOf_lt _ _ (by omega)))
      have h4 : mostOf (sp l) (l.length - 1) = sp l (bestOf (sp l) (l.length - 1)) := by simp [mostOf, h0]
      exact hc (by rw [h4]; exact of_decide_eq_true h3)
/-- The joint of a part: the first one with the greatest difference. -/
def jointOf (x y : S52) : Int := (turnOf x y).1
theorem wr1 : wrap64 1 = 1 := wrap_id (by decide) (by decide)
theorem wr2 : wrap64 2 = 2 := wrap_id (by decide) (by decide)
theorem wr3 : wrap64 3 = 3 := wrap_id (by decide) (by decide)
theorem index4_ev (a b c d m : Int) (hm : m = a ∨ m = b ∨ m = c ∨ m = d) :
    Ev (fun k => slices_Index_int.f k [a, b, c, d] m) (if m = a then 0 else if m = b then 1 else if m = c then 2 else 3) := by
  unfold slices_Index_int.f
  simp only [List.length_cons, List.length_nil]
  by_cases h1 : m = a
  · subst h1
    refine Ev.succ ?_
    simp [slices_Index_int.l0, rd4_0]
    exact Ev.now _
  by_cases h2 : m = b
  · subst h2
    refine Ev.succ (Ev.succ ?_)
    simp [slices_Index_int.l0, rd4_0, rd4_1, wr1, h1]
    exact Ev.now _
  by_cases h3 : m = c
  · subst h3
    refine Ev.succ (Ev.succ (Ev.succ ?_))
    simp [slices_Index_int.l0, rd4_0, rd4_1, rd4_2, wr1, wr2, h1, h2]
    exact Ev.now _
  · have h4 : m = d := by omega
    subst h4
    refine Ev.succ (Ev.succ (Ev.succ (Ev.succ ?_)))
    simp [slices_Index_int.l0, rd4_0, rd4_1, rd4_2, rd4_3, wr1, wr2, wr3, h1, h2, h3]
    exact Ev.now _
theorem joint_eq (x y : S52) : (if dmax x y = ad x.f1 y.f1 then (0 : Int) else if dmax x y = ad x.f2 y.f2 then 1 else if dmax x y = ad x.f3 y.f3 then 2 else 3) = jointOf x y := by
  have h := turn_facts _ _ _ _ (ad_nonneg x.f1 y.f1) (ad_nonneg x.f2 y.f2) (ad_nonneg x.f3 y.f3) (ad_nonneg x.f4 y.f4)
  obtain ⟨_, _, _, h4, _⟩ := h
  show _ = (turn4 _ _ _ _).1
  have e : dmax x y = Lib.maxOf [ad x.f1 y.f1, ad x.f2 y.f2, ad x.f3 y.f3, ad x.f4 y.f4] := rfl
  rw [e]
  split at h4
  · rename_i h1
    rw [if_pos h1, h4]
  · rename_i h1
    rw [if_neg h1]
    split at h4
    · rename_i h2
      rw [if_pos h2, h4]
    · rename_i h2
      rw [if_neg h2]
      split at h4
      · rename_i h3
        rw [if_pos h3, h4]
      · rename_i h3
        rw [if_neg h3, h4]
def fastR (l : List S52) : Int × Int × Int × Bool := if goodB l && decide (2 ≤ l.length) then ((bestOf (sp l) (l.length - 1) : Int), sp l (bestOf (sp l) (l.length - 1)), jointOf (kat l (bestOf (sp l) (l.length - 1))) (kat l (bestOf (sp l) (l.length - 1) + 1)), true) else (0, 0, 0, false)
theorem specFastestPart_ev (l : List S52) (hl : l.length < 4611686018427387904) : Ev (fun k => spec_FastestPart.f k l) (fastR l) := by
  unfold spec_FastestPart.f fastR
  refine Ev.bind (avGood_ev l hl) ?_
  rcases Bool.eq_false_or_eq_true (goodB l) with hg | hg
  · have hG := (goodB_iff l).1 hg
    have hlen := hG.len
    simp only [hg, if_true, Bool.true_and]
    refine Ev.succ ?_
    by_cases h2 : 2 ≤ l.length
    · have hb := bestOf_lt (sp l) (l.length - 1) (by omega)
      have hm : mostOf (sp l) (l.length - 1) = sp l (bestOf (sp l) (l.length - 1)) := by unfold mostOf; rw [if_neg (by omega)]
      have h1 := avFastest_ev hG
      rw [hm] at h1
      have hd2 : decide (2 ≤ l.length) = true := decide_eq_true h2
      have hd3 : decide ((l.length : Int) < 2) = false := decide_eq_false (by omega)
      simp only [spec_FastestPart.j0, hd2, hd3]
      refine Ev.bind h1 ?_
      generalize bestOf (sp l) (l.length - 1) = q at *
      have h3 : ((q : Int) < (l.length : Int)) = True := eq_true (by omega)
      have h4 : (((q + 1 : Nat) : Int) < (l.length : Int)) = True := eq_true (by omega)
      simp only [nat_nonneg, if_true, h3, h4, wrap_succ (show q < 4611686018427387904 by omega), rdk]
      refine Ev.bind (avTurn_ev _ _ (hG.key q (by omega)) (hG.key (q + 1) (by omega))) ?_
      exact Ev.now _
    · have hd2 : decide (2 ≤ l.length) = false := decide_eq_false h2
      have hd3 : decide ((l.length : Int) < 2) = true := decide_eq_true (by omega)
      simp only [spec_FastestPart.j0, hd2, hd3]
      exact Ev.now _
  · simp only [hg]
    refine Ev.succ ?_
    simp only [spec_FastestPart.j0]
    exact Ev.now _
theorem implFastestPart_ev (l : List S52) (hl : l.length < 4611686018427387904) : Ev (fun k => impl_FastestPart.f k l) (fastR l) := by
  unfold impl_FastestPart.f fastR
  refine Ev.bind (areKeys_ev l hl) ?_
  rcases Bool.eq_false_or_eq_true (goodB l) with hg | hg
  · have hG := (goodB_iff l).1 hg
    have hlen := hG.len
    simp only [hg, if_true, Bool.true_and]
    refine Ev.succ ?_
    by_cases h2 : 2 ≤ l.length
    · have hb := bestOf_lt (sp l) (l.length - 1) (by omega)
      have hd2 : decide (2 ≤ l.length) = true := decide_eq_true h2
      have hd3 : decide ((l.length : Int) < 2) = false := decide_eq_false (by omega)
      simp only [impl_FastestPart.j0, hd2, hd3, len_pred (show l.length < 4611686018427387904 by omega)]
      have key := Ev.upto (L := fun k j => impl_FastestPart.l0 k l (bestOf (sp l) j : Int) ((l.length : Int) - 1) (j : Int)) (n := l.length - 1)
        (r := ((bestOf (sp l) (l.length - 1) : Int), sp l (bestOf (sp l) (l.length - 1)), jointOf (kat l (bestOf (sp l) (l.length - 1))) (kat l (bestOf (sp l) (l.length - 1) + 1)), true))
        (by
          refine Ev.succ ?_
          have h1 : (((l.length - 1 : Nat) : Int) < (l.length : Int) - 1) = False := eq_false (by omega)
          simp only [impl_FastestPart.l0, h1, if_false]
          generalize bestOf (sp l) (l.length - 1) = q at *
          have hx := hG.key q (by omega)
          have hy := hG.key (q + 1) (by omega)
          refine Ev.bind (partChanges_ev l q (by omega) (by omega) hx hy) ?_
          refine Ev.bind (speed_ev hG q (by omega)) ?_
          have hmax : slices_Max_int.f (difs (kat l q) (kat l (q + 1))) = some (dmax (kat l q) (kat l (q + 1))) := by
            unfold slices_Max_int.f difs dmax
            simp [difs]
          simp only [hmax, Option.bind_some]
          have hf := (turn_facts _ _ _ _ (ad_nonneg (kat l q).f1 (kat l (q + 1)).f1) (ad_nonneg (kat l q).f2 (kat l (q + 1)).f2) (ad_nonneg (kat l q).f3 (kat l (q + 1)).f3) (ad_nonneg (kat l q).f4 (kat l (q + 1)).f4)).2.2.2.2
          refine Ev.bind (Ev.eq (index4_ev _ _ _ _ _ hf) (joint_eq (kat l q) (kat l (q + 1)))) ?_
          exact Ev.now _)
        (by
          intro j hj h
          refine Ev.succ ?_
          have h1 : ((j : Int) < (l.length : Int) - 1) = True := eq_true (by omega)
          have hbj : bestOf (sp l) j + 1 < l.length := by
            by_cases h0 : j = 0
            · subst h0; simp [bestOf]; omega
            · have := bestOf_lt (sp l) j (by omega)
              omega
          simp only [impl_FastestPart.l0, h1, if_true, wrap_succ (show j < 4611686018427387904 by omega)]
          refine Ev.bind (speed_ev hG j (by omega)) ?_
          refine Ev.bind (speed_ev hG (bestOf (sp l) j) hbj) ?_
          by_cases hc : sp l j > sp l (bestOf (sp l) j)
          · have e5 : bestOf (sp l) (j + 1) = j := by rw [bestOf, if_pos hc]
            rw [e5] at h
            simp only [eq_true hc, if_true]
            exact h
          · have e5 : bestOf (sp l) (j + 1) = bestOf (sp l) j := by rw [bestOf, if_neg hc]
            rw [e5] at h
            simp only [eq_false hc, if_false]
            exact h)
        0 (Nat.zero_le _)
      simpa [bestOf] using key
    · have hd2 : decide (2 ≤ l.length) = false := decide_eq_false h2
      have hd3 : decide ((l.length : Int) < 2) = true := decide_eq_true (by omega)
      simp only [impl_FastestPart.j0, hd2, hd3]
      exact Ev.now _
  · simp only [hg]
    refine Ev.succ ?_
    simp only [impl_FastestPart.j0]
    exact Ev.now _
theorem specKeepsSpeed_ev (l : List S52) (hl : l.length < 4611686018427387904) (most : Int) : Ev (fun k => spec_KeepsSpeed.f k l most) (if goodB l && inB most 1 360 then (keepsB l most, true) else (false, false)) := by
  unfold spec_KeepsSpeed.f spec_avMost.f
  refine Ev.bind (avGood_ev l hl) ?_
  rcases Bool.eq_false_or_eq_true (goodB l) with hg | hg
  · simp only [hg, if_true, l1In_eq, Option.bind_some]
    rcases Bool.eq_false_or_eq_true (inB most 1 360) with hm | hm
    · simp only [hm, if_true]
      refine Ev.bind (avKeeps_ev ((goodB_iff l).1 hg) most) ?_
      exact Ev.now _
    · simp only [hm]
      exact Ev.now _
  · simp only [hg]
    exact Ev.now _
theorem implKeepsSpeed_ev (l : List S52) (hl : l.length < 4611686018427387904) (most : Int) : Ev (fun k => impl_KeepsSpeed.f k l most) (if goodB l && inB most 1 360 then (keepsB l most, true) else (false, false)) := by
  unfold impl_KeepsSpeed.f
  refine Ev.bind (areKeys_ev l hl) ?_
  rcases Bool.eq_false_or_eq_true (goodB l) with hg | hg
  · simp only [hg, if_true, within_eq, Option.bind_some]
    rcases Bool.eq_false_or_eq_true (inB most 1 360) with hm | hm
    · have hm' : 1 ≤ most ∧ most ≤ 360 := of_decide_eq_true hm
      simp only [hm, if_true]
      refine Ev.bind (keepsSpeed_ev ((goodB_iff l).1 hg) most (by omega)) ?_
      exact Ev.now _
    · simp only [hm]
      exact Ev.now _
  · simp only [hg]
    exact Ev.now _
theorem clone_eq (l : List S52) (hl : l.length < 3518437208883) : slices_Clone_impl_Key.f l = some l := by
  unfold slices_Clone_impl_Key.f
  simp [hl]
def str (t : Int) (x : S52) : S52 := ⟨wrap64 (x.f0 * t), x.f1, x.f2, x.f3, x.f4⟩
/-- A list made by appending. -/
theorem push_ev {β : Type} (f : S52 → S52) (l : List S52) (L : Nat → List S52 → Int → Option β) (r : β)
    (hstep : ∀ j, j < l.length → ∀ k, L (k + 1) ((l.map f).take j) (j : Int) = L k ((l.map f).take j ++ [f (kat l j)]) ((j + 1 : Nat) : Int))
    (hend : Ev (fun k => L k (l.map f) (l.length : Int)) r) : Ev (fun k => L k [] 0) r := by
  have key := Ev.upto (L := fun k j => L k ((l.map f).take j) (j : Int)) (n := l.length) (r := r)
    (by rw [List.take_of_length_le (by simp)]; exact hend)
    (by
      intro j hj h
      refine Ev.succ ?_
      simp only [hstep j hj]
      have e : (l.map f).take j ++ [f (kat l j)] = (l.map f).take (j + 1) := by
        rw [List.take_succ_eq_append_getElem (by simpa using hj)]
        simp [kat, List.getD_eq_getElem?_getD, List.getElem?_eq_getElem hj]
      rw [e]
      exact h)
    0 (Nat.zero_le _)
  simpa using key
/-- A list turned in place. -/
theorem turn_ev {β : Type} (f : S52 → S52) (l : List S52) (L : Nat → List S52 → Int → Option β) (r : β)
    (hstep : ∀ j, j < l.length → ∀ k (s : List S52), s.length = l.length → kat s j = kat l j → L (k + 1) s (j : Int) = L k (s.set j (f (kat l j))) ((j + 1 : Nat) : Int))
    (hend : Ev (fun k => L k (l.map f) (l.length : Int)) r) : Ev (fun k => L k l 0) r := by
  have key := Ev.upto (L := fun k j => L k ((l.map f).take j ++ l.drop j) (j : Int)) (n := l.length) (r := r)
    (by rw [List.take_of_length_le (by simp), List.drop_length, List.append_nil]; exact hend)
    (by
      intro j hj h
      refine Ev.succ ?_
      have hlen : ((l.map f).take j ++ l.drop j).length = l.length := by simp; omega
      have hk : kat ((l.map f).take j ++ l.drop j) j = kat l j := by
        unfold kat
        rw [List.getD_eq_getElem?_getD, List.getElem?_append_right (by simp; omega)]
        simp [Nat.min_eq_left (Nat.le_of_lt hj), List.getD_eq_getElem?_getD]
      simp only [hstep j hj _ _ hlen hk]
      have e : ((l.map f).take j ++ l.drop j).set j (f (kat l j)) = (l.map f).take (j + 1) ++ l.drop (j + 1) := by
        rw [List.set_append_right _ _ (by simp; omega)]
        have e2 : j - ((l.map f).take j).length = 0 := by simp; omega
        rw [e2, List.drop_eq_getElem_cons hj, List.set_cons_zero, List.take_succ_eq_append_getElem (by simpa using hj)]
        simp [kat, List.getD_eq_getElem?_getD, List.getElem?_eq_getElem hj]
      rw [e]
      exact h)
    0 (Nat.zero_le _)
  simpa using key

def strB (l : List S52) (t : Int) : List S52 × Bool := if goodB (l.map (str t)) then (l.map (str t), true) else ([], false)
def strR (l : List S52) (t : Int) : List S52 × Bool := if goodB l && inB t 1 20 then strB l t else ([], false)
theorem avStretch_ev (l : List S52) (t : Int) (hl : l.length ≤ 3518437208780) : Ev (fun k => spec_avStretch.f k l t) (strB l t) := by
  unfold spec_avStretch.f
  refine push_ev (str t) l (fun k s j => spec_avStretch.l0 k t s l (l.length : Int) j) _ ?_ ?_
  · intro j hj k
    have h1 : ((j : Int) < (l.length : Int)) = True := eq_true (by omega)
    have h2 : (((l.map (str t)).take j).length < 3518437208883) = True := eq_true (by simp; omega)
    simp only [spec_avStretch.l0, h1, if_true, nat_nonneg, h2, rdk, wrap_succ (show j < 4611686018427387904 by omega)]
    rfl
  · refine Ev.succ ?_
    simp only [spec_avStretch.l0, Int.lt_irrefl, if_false]
    refine Ev.bind (avGood_ev _ (by simp; omega)) ?_
    unfold strB
    rcases Bool.eq_false_or_eq_true (goodB (l.map (str t))) with hg | hg <;> simp only [hg] <;> exact Ev.now _
theorem implStretch_ev (l : List S52) (t : Int) (hl : l.length ≤ 3518437208780) : Ev (fun k => impl_StretchKeys.f k l t) (strR l t) := by
  unfold impl_StretchKeys.f strR
  refine Ev.bind (areKeys_ev l (by omega)) ?_
  rcases Bool.eq_false_or_eq_true (goodB l) with hg | hg
  · simp only [hg, if_true, within_eq, Option.bind_some]
    refine Ev.succ ?_
    rcases Bool.eq_false_or_eq_true (inB t 1 20) with hm | hm
    · simp only [impl_StretchKeys.j0, hm, clone_eq l (by omega), Option.bind_some]
      refine turn_ev (str t) l (fun k s j => impl_StretchKeys.l0 k t s (l.length : Int) j) _ ?_ ?_
      · intro j hj k s hs hk
        have h1 : ((j : Int) < (l.length : Int)) = True := eq_true (by omega)
        simp only [impl_StretchKeys.l0, h1, if_true, nat_nonneg, rdk, hs, hk, Int.toNat_natCast, wrap_succ (show j < 4611686018427387904 by omega)]
        rfl
      · refine Ev.succ ?_
        simp only [impl_StretchKeys.l0, Int.lt_irrefl, if_false]
        refine Ev.bind (areKeys_ev _ (by simp; omega)) ?_
        simp only [Bool.true_and, if_true, strB]
        rcases Bool.eq_false_or_eq_true (goodB (l.map (str t))) with hg2 | hg2 <;> simp only [hg2] <;> exact Ev.now _
    · simp only [impl_StretchKeys.j0, hm]
      exact Ev.now _
  · simp only [hg]
    refine Ev.succ ?_
    simp only [impl_StretchKeys.j0]
    exact Ev.now _
/-- From a number on, the first one with which the keys keep the speed; d: how many are left. -/
def leastFrom (l : List S52) (most : Int) : Nat → Int → Int × Bool
  | 0, _ => (0, false)
  | d + 1, t => if (strB l t).2 = true then (if keepsB (strB l t).1 most = true then (t, true) else leastFrom l most d (t + 1)) else leastFrom l most d (t + 1)
theorem strB_good {l : List S52} {t : Int} (h : (strB l t).2 = true) : Good (strB l t).1 := by
  unfold strB at h ⊢
  split at h
  · rename_i hg
    rw [if_pos hg]
    exact (goodB_iff _).1 hg
  · cases h
theorem specLeast_ev (l : List S52) (most : Int) (hl : l.length ≤ 3518437208780) : ∀ (d : Nat) (t : Int), t + d = 21 → 1 ≤ t → Ev (fun k => spec_LeastStretch.l0 k l most t) (leastFrom l most d t) := by
  intro d
  induction d with
  | zero =>
    intro t h _
    refine Ev.succ ?_
    simp only [spec_LeastStretch.l0, show (t ≤ 20) = False from eq_false (by omega), if_false]
    exact Ev.now _
  | succ d ih =>
    intro t h h1
    refine Ev.succ ?_
    simp only [spec_LeastStretch.l0, show (t ≤ 20) = True from eq_true (by omega), if_true, leastFrom, wrap_id (x := t + 1) (by omega) (by omega)]
    refine Ev.bind (avStretch_ev l t hl) ?_
    rcases Bool.eq_false_or_eq_true (strB l t).2 with hs | hs
    · simp only [hs, if_true]
      refine Ev.bind (avKeeps_ev (strB_good hs) most) ?_
      rcases Bool.eq_false_or_eq_true (keepsB (strB l t).1 most) with hk | hk
      · simp only [hk, if_true]
        exact Ev.now _
      · simp only [hk]
        exact ih (t + 1) (by omega) (by omega)
    · simp only [hs]
      exact ih (t + 1) (by omega) (by omega)
theorem implLeast_ev (l : List S52) (most : Int) (hl : l.length ≤ 3518437208780) (hg : goodB l = true) (hm : 0 ≤ most) : ∀ (d : Nat) (t : Int), t + d = 21 → 1 ≤ t → Ev (fun k => impl_LeastStretch.l0 k l most t) (leastFrom l most d t) := by
  intro d
  induction d with
  | zero =>
    intro t h _
    refine Ev.succ ?_
    simp only [impl_LeastStretch.l0, show (t ≤ 20) = False from eq_false (by omega), if_false]
    exact Ev.now _
  | succ d ih =>
    intro t h h1
    refine Ev.succ ?_
    have hR : strR l t = strB l t := by
      unfold strR
      rw [hg, show inB t 1 20 = true from decide_eq_true (by omega)]
      rfl
    simp only [impl_LeastStretch.l0, show (t ≤ 20) = True from eq_true (by omega), if_true, leastFrom, wrap_id (x := t + 1) (by omega) (by omega)]
    refine Ev.bind (Ev.eq (implStretch_ev l t hl) hR) ?_
    rcases Bool.eq_false_or_eq_true (strB l t).2 with hs | hs
    · simp only [hs, if_true]
      refine Ev.bind (keepsSpeed_ev (strB_good hs) most hm) ?_
      rcases Bool.eq_false_or_eq_true (keepsB (strB l t).1 most) with hk | hk
      · simp only [hk, if_true]
        exact Ev.now _
      · simp only [hk]
        exact ih (t + 1) (by omega) (by omega)
    · simp only [hs]
      exact ih (t + 1) (by omega) (by omega)
def leastR (l : List S52) (most : Int) : Int × Bool := if goodB l && inB most 1 360 then leastFrom l most 20 1 else (0, false)
theorem specLeastStretch_ev (l : List S52) (most : Int) (hl : l.length ≤ 3518437208780) : Ev (fun k => spec_LeastStretch.f k l most) (leastR l most) := by
  unfold spec_LeastStretch.f spec_avMost.f leastR
  refine Ev.bind (avGood_ev l (by omega)) ?_
  rcases Bool.eq_false_or_eq_true (goodB l) with hg | hg
  · simp only [hg, if_true, l1In_eq, Option.bind_some]
    refine Ev.succ ?_
    rcases Bool.eq_false_or_eq_true (inB most 1 360) with hm | hm
    · simp only [spec_LeastStretch.j0, hm]
      exact specLeast_ev l most hl 20 1 (by decide) (by decide)
    · simp only [spec_LeastStretch.j0, hm]
      exact Ev.now _
  · simp only [hg]
    refine Ev.succ ?_
    simp only [spec_LeastStretch.j0]
    exact Ev.now _
theorem implLeastStretch_ev (l : List S52) (most : Int) (hl : l.length ≤ 3518437208780) : Ev (fun k => impl_LeastStretch.f k l most) (leastR l most) := by
  unfold impl_LeastStretch.f leastR
  refine Ev.bind (areKeys_ev l (by omega)) ?_
  rcases Bool.eq_false_or_eq_true (goodB l) with hg | hg
  · simp only [hg, if_true, within_eq, Option.bind_some]
    refine Ev.succ ?_
    rcases Bool.eq_false_or_eq_true (inB most 1 360) with hm | hm
    · have hm' : 1 ≤ most ∧ most ≤ 360 := of_decide_eq_true hm
      simp only [impl_LeastStretch.j0, hm]
      exact implLeast_ev l most hl hg (by omega) 20 1 (by decide) (by decide)
    · simp only [impl_LeastStretch.j0, hm]
      exact Ev.now _
  · simp only [hg]
    refine Ev.succ ?_
    simp only [impl_LeastStretch.j0]
    exact Ev.now _
end Go.Proofs.Ytkobnljfoedmnaa.Pure
namespace Go.Proofs.Ytkobnljfoedmnaa.Pure
open Go.RowKit Go.Proofs.Ytkobnljfoedmnaa.Q Go.Proofs.YtkobnljfoedmnaaW.PrintWords Go.Proofs.YtkobnljfoedmnaaW.PrintLast

/-! ### Draws -/
theorem drawAre_ok {l : List Int} (hu : U8 l) : ∃ L, Ev (fun k => spec_DrawAreKeys.f k l) L ∧ L.length ≤ 16 := by
  obtain ⟨L, a', s', hE, hL, _, _⟩ := keys_ok hu (a := 0) 0 (by decide) (by decide)
  exact ⟨L, by unfold spec_DrawAreKeys.f; exact Ev.bind hE (Ev.now _), hL⟩
theorem drawFast_ok {l : List Int} (hu : U8 l) : ∃ L, Ev (fun k => spec_DrawFastestPart.f k l) L ∧ L.length ≤ 16 := by
  obtain ⟨L, hE, hL⟩ := drawAre_ok hu
  exact ⟨L, by unfold spec_DrawFastestPart.f; exact Ev.bind hE (Ev.now _), hL⟩
theorem drawPose_ok {l : List Int} (hu : U8 l) : ∃ L fr, Ev (fun k => spec_DrawPoseAt.f k l) (L, fr) ∧ L.length ≤ 16 := by
  obtain ⟨L, a', s', hE, hL, p, q⟩ := keys_ok hu (a := 0) 0 (by decide) (by decide)
  obtain ⟨fr, a2, s2, e2, _, _, _⟩ := keyFrame_ok hu s' (a := a') (by omega) (by omega)
  refine ⟨L, fr, ?_, hL⟩
  unfold spec_DrawPoseAt.f
  refine Ev.bind hE ?_
  simp only [e2, Option.bind_some]
  exact Ev.now _
theorem drawKeeps_ok {l : List Int} (hu : U8 l) : ∃ L m, Ev (fun k => spec_DrawKeepsSpeed.f k l) (L, m) ∧ L.length ≤ 16 := by
  obtain ⟨L, a', s', hE, hL, p, q⟩ := keys_ok hu (a := 0) 0 (by decide) (by decide)
  obtain ⟨m, a2, s2, e2, _, _, _⟩ := speedOf_ok hu s' (a := a') (by omega) (by omega)
  refine ⟨L, m, ?_, hL⟩
  unfold spec_DrawKeepsSpeed.f
  refine Ev.bind hE ?_
  simp only [e2, Option.bind_some]
  exact Ev.now _
theorem drawLeast_ok {l : List Int} (hu : U8 l) : ∃ L m, Ev (fun k => spec_DrawLeastStretch.f k l) (L, m) ∧ L.length ≤ 16 := by
  obtain ⟨L, m, hE, hL⟩ := drawKeeps_ok hu
  exact ⟨L, m, by unfold spec_DrawLeastStretch.f; exact Ev.bind hE (Ev.now _), hL⟩
/-! ### What the law says of them -/
theorem dn_eq {c m : Int} (hm : 0 < m) : dnOf c m = c / m := by
  have e := Int.mul_tdiv_add_tmod c m
  have h1 := Int.tmod_lt_of_pos c hm
  have h2 := Int.lt_tmod_of_pos c hm
  have key : ∀ q, q * m ≤ c → c < q * m + m → q = c / m := fun q a b => by
    have g1 : q ≤ c / m := (Int.le_ediv_iff_mul_le hm).2 a
    have g2 : c / m < q + 1 := (Int.ediv_lt_iff_lt_mul hm).2 (by rw [Int.add_mul, Int.one_mul]; exact b)
    omega
  unfold dnOf
  rw [Int.mul_comm] at e
  split
  · refine key _ ?_ ?_ <;> rw [Int.sub_mul, Int.one_mul] <;> omega
  · exact key _ (by omega) (by omega)
theorem btw_range {p q n m lo hi : Int} (hn : 0 ≤ n) (hm : 0 < m) (hnm : n ≤ m) (hp : lo ≤ p ∧ p ≤ hi) (hq : lo ≤ q ∧ q ≤ hi) : lo ≤ btwOf p q n m ∧ btwOf p q n m ≤ hi := by
  have e : dnOf ((q - p) * n) m = ((q - p) * n) / m := dn_eq hm
  unfold btwOf
  rw [e]
  have l1 : (lo - p) * m ≤ (q - p) * n := by
    rcases Int.lt_or_le (q - p) 0 with h | h
    · have a1 : (q - p) * m ≤ (q - p) * n := Int.mul_le_mul_of_nonpos_left (by omega) hnm
      have a2 : (lo - p) * m ≤ (q - p) * m := Int.mul_le_mul_of_nonneg_right (by omega) (by omega)
      omega
    · have a1 : 0 ≤ (q - p) * n := Int.mul_nonneg h hn
      have a2 : (lo - p) * m ≤ 0 := Int.mul_nonpos_of_nonpos_of_nonneg (by omega) (by omega)
      omega
  have l2 : (q - p) * n ≤ (hi - p) * m := by
    rcases Int.lt_or_le (q - p) 0 with h | h
    · have a1 : (q - p) * n ≤ 0 := Int.mul_nonpos_of_nonpos_of_nonneg (by omega) hn
      have a2 : 0 ≤ (hi - p) * m := Int.mul_nonneg (by omega) (by omega)
      omega
    · have a1 : (q - p) * n ≤ (q - p) * m := Int.mul_le_mul_of_nonneg_left hnm h
      have a2 : (q - p) * m ≤ (hi - p) * m := Int.mul_le_mul_of_nonneg_right (by omega) (by omega)
      omega
  have g1 : lo - p ≤ ((q - p) * n) / m := Int.le_ediv_of_mul_le hm l1
  have g2 : ((q - p) * n) / m ≤ hi - p := by
    have := Int.ediv_le_ediv hm l2
    rwa [Int.mul_ediv_cancel _ (show m ≠ 0 by omega)] at this
  omega
theorem keyB_of {x : S52} (h : (0 ≤ x.f0 ∧ x.f0 ≤ 9999) ∧ (-90 ≤ x.f1 ∧ x.f1 ≤ 180) ∧ (0 ≤ x.f2 ∧ x.f2 ≤ 150) ∧ (-70 ≤ x.f3 ∧ x.f3 ≤ 70) ∧ (0 ≤ x.f4 ∧ x.f4 ≤ 90)) : keyB x.f0 x.f1 x.f2 x.f3 x.f4 = true := (kOk_iff x).2 h
theorem pose_law {l : List S52} (hG : Good l) (a : Int) : ∀ d j, j + d = l.length → (poseS l a d j).2.2.2.2.2 = true → keyB (poseS l a d j).1 (poseS l a d j).2.1 (poseS l a d j).2.2.1 (poseS l a d j).2.2.2.1 (poseS l a d j).2.2.2.2.1 = true ∧ (poseS l a d j).1 = a := by
  intro d
  induction d with
  | zero => intro j _ h; exact absurd h (by simp [poseS])
  | succ d ih =>
    intro j hj h
    have hx := hG.key j (by omega)
    rw [poseS] at h ⊢
    by_cases h1 : (kat l j).f0 = a
    · rw [if_pos h1]
      exact ⟨keyB_of hx, h1⟩
    · rw [if_neg h1] at h ⊢
      by_cases h2 : j + 1 < l.length ∧ (kat l j).f0 < a ∧ a < (kat l (j + 1)).f0
      · rw [if_pos h2]
        have hy := hG.key (j + 1) h2.1
        obtain ⟨x0, x1, x2, x3, x4⟩ := hx
        obtain ⟨y0, y1, y2, y3, y4⟩ := hy
        have n0 : 0 ≤ a - (kat l j).f0 := by omega
        have m0 : 0 < (kat l (j + 1)).f0 - (kat l j).f0 := by omega
        have nm : a - (kat l j).f0 ≤ (kat l (j + 1)).f0 - (kat l j).f0 := by omega
        refine ⟨?_, rfl⟩
        exact keyB_of (x := ⟨a, _, _, _, _⟩) ⟨⟨by show 0 ≤ a; omega, by show a ≤ 9999; omega⟩, btw_range n0 m0 nm x1 y1, btw_range n0 m0 nm x2 y2, btw_range n0 m0 nm x3 y3, btw_range n0 m0 nm x4 y4⟩
      · rw [if_neg h2] at h ⊢
        exact ih (j + 1) (by omega) h
theorem poseR_law (l : List S52) (a : Int) (h : (poseR l a).2.2.2.2.2 = true) : keyB (poseR l a).1 (poseR l a).2.1 (poseR l a).2.2.1 (poseR l a).2.2.2.1 (poseR l a).2.2.2.2.1 = true ∧ (poseR l a).1 = a := by
  unfold poseR at h ⊢
  split at h
  · rename_i hg
    rw [if_pos hg]
    exact pose_law ((goodB_iff l).1 hg) a _ 0 (by omega) h
  · cases h
theorem least_law (l : List S52) (most : Int) : ∀ (d : Nat) (t : Int), (leastFrom l most d t).2 = true → t ≤ (leastFrom l most d t).1 ∧ (leastFrom l most d t).1 < t + d ∧ (strB l (leastFrom l most d t).1).2 = true ∧ keepsB (strB l (leastFrom l most d t).1).1 most = true ∧ ∀ u, t ≤ u → u < (leastFrom l most d t).1 → (strB l u).2 = true → keepsB (strB l u).1 most = false := by
  intro d
  induction d with
  | zero => intro t h; exact absurd h (by simp [leastFrom])
  | succ d ih =>
    intro t h
    rw [leastFrom] at h ⊢
    by_cases h1 : (strB l t).2 = true
    · rw [if_pos h1] at h ⊢
      by_cases h2 : keepsB (strB l t).1 most = true
      · rw [if_pos h2]
        exact ⟨Int.le_refl _, by show t < t + ((d + 1 : Nat) : Int); omega, h1, h2, fun u g1 g2 => absurd g2 (by show ¬ u < t; omega)⟩
      · rw [if_neg h2] at h ⊢
        obtain ⟨k1, k2, k3, k4, k5⟩ := ih (t + 1) h
        refine ⟨by omega, by omega, k3, k4, fun u g1 g2 g3 => ?_⟩
        by_cases e : u = t
        · rw [e]; simpa using h2
        · exact k5 u (by omega) g2 g3
    · rw [if_neg h1] at h ⊢
      obtain ⟨k1, k2, k3, k4, k5⟩ := ih (t + 1) h
      refine ⟨by omega, by omega, k3, k4, fun u g1 g2 g3 => ?_⟩
      by_cases e : u = t
      · rw [e] at g3; exact absurd g3 h1
      · exact k5 u (by omega) g2 g3
theorem str_one {l : List S52} (hg : goodB l = true) : strB l 1 = (l, true) := by
  have hG := (goodB_iff l).1 hg
  have e : l.map (str 1) = l := by
    refine (List.map_congr_left fun x hx => ?_).trans (List.map_id l)
    obtain ⟨i, hi, rfl⟩ := List.mem_iff_getElem.1 hx
    have hk : kat l i = l[i] := by unfold kat; rw [List.getD_eq_getElem?_getD, List.getElem?_eq_getElem hi]; rfl
    have h := (hG.key i hi).1
    rw [hk] at h
    unfold str
    rw [Int.mul_one, wrap_id (by omega) (by omega)]
    rfl
  unfold strB
  rw [e, if_pos hg]
theorem least_one {l : List S52} {most : Int} (hg : goodB l = true) (hk : keepsB l most = true) : (leastFrom l most 20 1).1 = 1 := by
  rw [leastFrom, str_one hg]
  simp only [if_true, hk]
theorem joint_range {l : List S52} (x y : S52) : 0 ≤ jointOf x y ∧ jointOf x y ≤ 3 := by
  obtain ⟨_, h1, h2, _⟩ := turn_facts _ _ _ _ (ad_nonneg x.f1 y.f1) (ad_nonneg x.f2 y.f2) (ad_nonneg x.f3 y.f3) (ad_nonneg x.f4 y.f4)
  exact ⟨h1, h2⟩
theorem strB_len (l : List S52) (t : Int) : (strB l t).1.length ≤ l.length := by
  unfold strB
  split <;> simp
theorem strB_goodB {l : List S52} {t : Int} (h : (strB l t).2 = true) : goodB (strB l t).1 = true := (goodB_iff _).2 (strB_good h)
def keepsR (l : List S52) (most : Int) : Bool × Bool := if goodB l && inB most 1 360 then (keepsB l most, true) else (false, false)
/-! ### The law's steps -/
theorem kf6 {v : List S52} (hv : v.length ≤ 16) {most : Int} (h : (leastR v most).2 = true) : Ev (fun k => laws_FnKeyframes.j6 k v most (leastR v most).1 (leastR v most).1 false) true := by
  have h0 : goodB v = true ∧ inB most 1 360 = true := by
    unfold leastR at h
    split at h
    · rename_i hc; simpa using hc
    · cases h
  have e : leastR v most = leastFrom v most 20 1 := by unfold leastR; rw [h0.1, h0.2]; rfl
  rw [e] at h ⊢
  obtain ⟨k1, k2, k3, k4, k5⟩ := least_law v most 20 1 h
  refine Ev.succ ?_
  simp only [laws_FnKeyframes.j6, Bool.false_eq_true, if_false]
  by_cases h1 : (leastFrom v most 20 1).1 > 1
  · simp only [eq_true h1, if_true]
    have hw : wrap64 ((leastFrom v most 20 1).1 - 1) = (leastFrom v most 20 1).1 - 1 := wrap_id (by omega) (by omega)
    rw [hw]
    have hin : inB ((leastFrom v most 20 1).1 - 1) 1 20 = true := decide_eq_true ⟨by omega, by omega⟩
    have es : strR v ((leastFrom v most 20 1).1 - 1) = strB v ((leastFrom v most 20 1).1 - 1) := by unfold strR; rw [h0.1, hin]; rfl
    refine Ev.bind (implStretch_ev v _ (by omega)) ?_
    rw [es]
    have hlen := strB_len v ((leastFrom v most 20 1).1 - 1)
    refine Ev.bind (implKeepsSpeed_ev _ (by omega) most) ?_
    rcases Bool.eq_false_or_eq_true (strB v ((leastFrom v most 20 1).1 - 1)).2 with hs | hs
    · have hb := k5 _ (by omega) (by omega) hs
      simp only [hs, if_true, strB_goodB hs, h0.2, Bool.and_self, hb, Bool.false_eq_true, if_false]
      exact Ev.now _
    · simp only [hs, Bool.false_eq_true, if_false]
      exact Ev.now _
  · simp only [eq_false h1, if_false]
    exact Ev.now _
theorem kf5 {v : List S52} (hv : v.length ≤ 16) (most : Int) : Ev (fun k => laws_FnKeyframes.j5 k v most (leastR v most).1 (leastR v most).2 (leastR v most).1 (keepsR v most).1) true := by
  rcases Bool.eq_false_or_eq_true (leastR v most).2 with h | h
  · have h0 : goodB v = true ∧ inB most 1 360 = true := by
      unfold leastR at h
      split at h
      · rename_i hc; simpa using hc
      · cases h
    have e : leastR v most = leastFrom v most 20 1 := by unfold leastR; rw [h0.1, h0.2]; rfl
    have hh := h
    rw [e] at hh
    obtain ⟨k1, k2, k3, k4, k5⟩ := least_law v most 20 1 hh
    have hin : inB (leastR v most).1 1 20 = true := by rw [e]; exact decide_eq_true ⟨by omega, by omega⟩
    have es : strR v (leastR v most).1 = strB v (leastR v most).1 := by unfold strR; rw [h0.1, hin]; rfl
    have hlen := strB_len v (leastR v most).1
    rw [← e] at k3 k4
    refine Ev.succ ?_
    simp only [laws_FnKeyframes.j5, h, if_true]
    refine Ev.bind (implStretch_ev v _ (by omega)) ?_
    rw [es]
    refine Ev.bind (implKeepsSpeed_ev _ (by omega) most) ?_
    simp only [k3, if_true, strB_goodB k3, h0.2, Bool.and_self, k4]
    rcases Bool.eq_false_or_eq_true (keepsR v most).1 with hk | hk
    · have hk2 : keepsB v most = true := by
        unfold keepsR at hk
        rw [h0.1, h0.2] at hk
        exact hk
      have e1 : (leastR v most).1 = 1 := by rw [e]; exact least_one h0.1 hk2
      have hb : ((leastR v most).1 != 1) = false := by rw [e1]; rfl
      simp only [hk, if_true, hb]
      exact kf6 hv h
    · simp only [hk, Bool.false_eq_true, if_false]
      exact kf6 hv h
  · refine Ev.succ ?_
    simp only [laws_FnKeyframes.j5, h, Bool.false_eq_true, if_false]
    exact Ev.now _
theorem kf1 {u v : List S52} (hu : u.length ≤ 16) (hv : v.length ≤ 16) (most : Int) : Ev (fun k => laws_FnKeyframes.j1 k u (fastR u).2.2.2 (fastR u).1 (fastR u).2.1 (fastR u).2.2.1 v most (leastR v most).1 (leastR v most).2 (leastR v most).1 (keepsR v most).1 false) true := by
  have rest := kf5 hv most
  refine Ev.succ ?_
  simp only [laws_FnKeyframes.j1, Bool.false_eq_true, if_false]
  by_cases hc : (goodB u && decide (2 ≤ u.length)) = true
  · have e : fastR u = ((bestOf (sp u) (u.length - 1) : Int), sp u (bestOf (sp u) (u.length - 1)), jointOf (kat u (bestOf (sp u) (u.length - 1))) (kat u (bestOf (sp u) (u.length - 1) + 1)), true) := by unfold fastR; rw [if_pos hc]
    have hg : goodB u = true ∧ 2 ≤ u.length := by simpa using hc
    have hG := (goodB_iff u).1 hg.1
    rw [e]
    have hb := bestOf_lt (sp u) (u.length - 1) (by omega)
    have hj := joint_range (l := u) (kat u (bestOf (sp u) (u.length - 1))) (kat u (bestOf (sp u) (u.length - 1) + 1))
    generalize jointOf (kat u (bestOf (sp u) (u.length - 1))) (kat u (bestOf (sp u) (u.length - 1) + 1)) = jt at hj
    have hm : mostOf (sp u) (u.length - 1) = sp u (bestOf (sp u) (u.length - 1)) := by unfold mostOf; rw [if_neg (by omega)]
    have hs0 := sp_nonneg hG (bestOf (sp u) (u.length - 1)) (by omega)
    have hs1 := sp_le hG (bestOf (sp u) (u.length - 1)) (by omega)
    have keepsE : ∀ m, keepsB u m = decide (sp u (bestOf (sp u) (u.length - 1)) ≤ m) := fun m => by unfold keepsB; rw [hm]
    generalize sp u (bestOf (sp u) (u.length - 1)) = sd at hs0 hs1 keepsE
    generalize bestOf (sp u) (u.length - 1) = bi at hb
    have hw : wrap64 ((u.length : Int) - 2) = (u.length : Int) - 2 := wrap_id (by omega) (by omega)
    simp only [if_true, show ((bi : Int) < 0) = False from eq_false (by omega), hw, show ((bi : Int) > (u.length : Int) - 2) = False from eq_false (by omega), if_false, show (jt < 0) = False from eq_false (by omega), decide_eq_false (show ¬ jt ≥ 4 by omega)]
    refine Ev.succ ?_
    simp only [laws_FnKeyframes.j2, Bool.false_eq_true, if_false]
    by_cases h1 : sd ≥ 1
    · simp only [eq_true h1, if_true, decide_eq_true (show sd ≤ 360 by omega)]
      have hin : inB sd 1 360 = true := decide_eq_true ⟨by omega, by omega⟩
      refine Ev.succ ?_
      simp only [laws_FnKeyframes.j3, if_true]
      refine Ev.bind (implKeepsSpeed_ev u (by omega) sd) ?_
      simp only [hg.1, hin, Bool.and_self, if_true, keepsE, decide_eq_true (Int.le_refl sd), Bool.not_true]
      refine Ev.succ ?_
      simp only [laws_FnKeyframes.j4, Bool.false_eq_true, if_false]
      by_cases h2 : sd > 1
      · simp only [eq_true h2, if_true]
        rw [wrap_id (x := sd - 1) (by omega) (by omega)]
        have hin2 : inB (sd - 1) 1 360 = true := decide_eq_true ⟨by omega, by omega⟩
        refine Ev.bind (implKeepsSpeed_ev u (by omega) (sd - 1)) ?_
        simp only [hg.1, hin2, Bool.and_self, if_true, keepsE, decide_eq_false (show ¬ sd ≤ sd - 1 by omega), Bool.false_eq_true, if_false]
        exact rest
      · simp only [eq_false h2, if_false]
        exact rest
    · simp only [eq_false h1, if_false]
      refine Ev.succ ?_
      simp only [laws_FnKeyframes.j3, Bool.false_eq_true, if_false]
      exact rest
  · have e : fastR u = (0, 0, 0, false) := by unfold fastR; rw [if_neg hc]
    rw [e]
    simp only [Bool.false_eq_true, if_false]
    exact rest
theorem kf0 {l u v : List S52} (a : Int) (hu : u.length ≤ 16) (hv : v.length ≤ 16) (most : Int) : Ev (fun k => laws_FnKeyframes.j0 k a (poseR l a).2.2.2.2.2 u (fastR u).2.2.2 (fastR u).1 (fastR u).2.1 (fastR u).2.2.1 v most (leastR v most).1 (leastR v most).2 (leastR v most).1 (keepsR v most).1 false (poseR l a).1 (poseR l a).2.1 (poseR l a).2.2.1 (poseR l a).2.2.2.1 (poseR l a).2.2.2.2.1 (poseR l a).1 (poseR l a).2.1 (poseR l a).2.2.1 (poseR l a).2.2.2.1 (poseR l a).2.2.2.2.1) true := by
  have rest := kf1 hu hv most
  refine Ev.succ ?_
  simp only [laws_FnKeyframes.j0, Bool.false_eq_true, if_false]
  rcases Bool.eq_false_or_eq_true (poseR l a).2.2.2.2.2 with h | h
  · obtain ⟨h1, h2⟩ := poseR_law l a h
    have h3 : ((poseR l a).1 != a) = false := by rw [h2]; simp
    simp only [h, if_true, isKey_eq, Option.bind_some, h1, h3]
    exact rest
  · simp only [h, Bool.false_eq_true, if_false]
    exact rest
theorem least_keeps {v : List S52} {most : Int} (h : (leastR v most).2 = true) : (keepsR v most).2 = true := by
  unfold leastR at h
  split at h
  · rename_i hc
    unfold keepsR
    rw [if_pos hc]
  · cases h
theorem FnKeyframes : laws_FnKeyframes.Pure := by
  intro l0 l1 h0 hb0 h1 hb1
  have u0 : U8 l0 := ⟨hb0, by omega⟩
  have u1 : U8 l1 := ⟨hb1, by omega⟩
  refine Ev.rounds ?_
  unfold laws_FnKeyframes.f
  by_cases hs : wrap64 ((l0.length : Int) + (l1.length : Int)) > 1048576
  · simp only [eq_true hs, if_true]
    exact Ev.now _
  simp only [eq_false hs, if_false]
  obtain ⟨L, a, hL, hLn⟩ := drawPose_ok u0
  obtain ⟨U, hU, hUn⟩ := drawFast_ok u1
  obtain ⟨V, m, hV, hVn⟩ := drawLeast_ok u1
  refine Ev.bind hL ?_
  refine Ev.bind (implPoseAt_ev L a (by omega)) ?_
  refine Ev.bind (specPoseAt_ev L a (by omega)) ?_
  refine Ev.bind hU ?_
  refine Ev.bind (implFastestPart_ev U (by omega)) ?_
  refine Ev.bind (specFastestPart_ev U (by omega)) ?_
  refine Ev.bind hV ?_
  refine Ev.bind (implLeastStretch_ev V m (by omega)) ?_
  refine Ev.bind (specLeastStretch_ev V m (by omega)) ?_
  refine Ev.bind (implKeepsSpeed_ev V (by omega) m) ?_
  refine Ev.bind (specKeepsSpeed_ev V (by omega) m) ?_
  have ek : (if (goodB V && inB m 1 360) = true then (keepsB V m, true) else (false, false)) = keepsR V m := rfl
  rw [ek]
  simp only [bne_self_eq_false, beq_self_eq_true, Bool.not_true, Bool.or_self, Bool.false_eq_true, if_false, if_true]
  have key := kf0 (l := L) a hUn hVn m
  rcases Bool.eq_false_or_eq_true (leastR V m).2 with h | h
  · simp only [h, if_true, least_keeps h, Bool.not_true] at key ⊢
    exact key
  · simp only [h, Bool.false_eq_true, if_false] at key ⊢
    exact key
end Go.Proofs.Ytkobnljfoedmnaa.Pure
