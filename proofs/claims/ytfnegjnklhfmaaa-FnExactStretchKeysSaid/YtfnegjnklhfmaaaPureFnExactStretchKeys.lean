/- For every list of keys and every number, the program's StretchKeys returns what the reference's StretchKeys returns, leaves the list alone, and hands back memory of its own. No condition. -/
import Derived.Test.YtfnegjnklhfmaaaQImplAreKeys
import Derived.Test.YtfnegjnklhfmaaaQImplIsKey
import Derived.Test.YtfnegjnklhfmaaaQImplStretchKeys
import Derived.Test.YtfnegjnklhfmaaaQImplWithin
import Derived.Test.YtfnegjnklhfmaaaQLawsEqKey
import Derived.Test.YtfnegjnklhfmaaaQLawsEqKeyS
import Derived.Test.YtfnegjnklhfmaaaQLawsFnExactStretchKeys
import Derived.Test.YtfnegjnklhfmaaaQLawsHeldKeyS
import Derived.Test.YtfnegjnklhfmaaaQLawsMarkKeyS
import Derived.Test.YtfnegjnklhfmaaaQLawsSzKeyS
import Derived.Test.YtfnegjnklhfmaaaQLawsToKey
import Derived.Test.YtfnegjnklhfmaaaQLawsToKeyS
import Derived.Test.YtfnegjnklhfmaaaQSlicesCloneImplKey
import Derived.Test.YtfnegjnklhfmaaaQSpecAvFrame
import Derived.Test.YtfnegjnklhfmaaaQSpecAvGood
import Derived.Test.YtfnegjnklhfmaaaQSpecAvOne
import Derived.Test.YtfnegjnklhfmaaaQSpecAvStretch
import Derived.Test.YtfnegjnklhfmaaaQSpecL1In
import Derived.Test.YtfnegjnklhfmaaaQSpecStretchKeys
import Derived.Test.YtfnegjnklhfmaaaQ0
import Derived.Test.YtfnegjnklhfmaaaWWords
import Derived.Lib.Slices
set_option linter.unusedVariables false
set_option linter.unusedSimpArgs false
namespace Go.Proofs.Ytfnegjnklhfmaaa.Pure
open Go.RowKit Go.Proofs.Ytfnegjnklhfmaaa.Q Go.Proofs.YtfnegjnklhfmaaaW.PrintLast Go.Proofs.YtfnegjnklhfmaaaW.PrintWords
theorem Ev.succ {α : Type} {g : Nat → Option α} {r : α} (h : Ev (fun k => g (k + 1)) r) : Ev g r := Ev.step (fun _ => rfl) h
theorem Ev.k {α : Type} {g : Nat → Option α} {o : Option α} {r : α} (hg : ∀ k, g k = o) (h : o = some r) : Ev g r := ⟨0, fun k _ => (hg k).trans h⟩
theorem Ev.eq {α : Type} {g : Nat → Option α} {r r' : α} (h : Ev g r) (e : r = r') : Ev g r' := e ▸ h
/-- From round i up to round n. -/
theorem Ev.upto {β : Type} {L : Nat → Nat → Option β} {r : β} {n : Nat} (hend : Ev (fun k => L k n) r)
    (hstep : ∀ j, j < n → Ev (fun k => L k (j + 1)) r → Ev (fun k => L k j) r) : ∀ i, i ≤ n → Ev (fun k => L k i) r := by
  intro i hi
  obtain ⟨d, hd⟩ : ∃ d, n = i + d := ⟨n - i, by omega⟩
  induction d generalizing i with
  | zero => simp at hd; subst hd; exact hend
  | succ d ih => exact hstep i (by omega) (ih (i + 1) (by omega) (by omega))
/-- A loop that ends early where P fails. -/
theorem Ev.all {β : Type} {L : Nat → Nat → Option β} {P : Nat → Bool} {n : Nat} {a b : β} (hend : Ev (fun k => L k n) a)
    (hyes : ∀ j r, j < n → P j = true → Ev (fun k => L k (j + 1)) r → Ev (fun k => L k j) r) (hno : ∀ j, j < n → P j = false → Ev (fun k => L k j) b) :
    ∀ i, i ≤ n → Ev (fun k => L k i) (if (List.range' i (n - i)).all P then a else b) := by
  intro i hi
  obtain ⟨d, hd⟩ : ∃ d, n = i + d := ⟨n - i, by omega⟩
  induction d generalizing i with
  | zero => simp at hd; subst hd; simpa using hend
  | succ d ih =>
    have h1 : n - i = (n - (i + 1)) + 1 := by omega
    rw [h1, List.range'_succ]
    simp only [List.all_cons]
    rcases Bool.eq_false_or_eq_true (P i) with hP | hP
    · simp only [hP, Bool.true_and]
      exact hyes i _ (by omega) hP (ih (i + 1) (by omega) (by omega))
    · simpa [hP] using hno i (by omega) hP
theorem Ev.all0 {β : Type} {L : Nat → Nat → Option β} {P : Nat → Bool} {n : Nat} {a b : β} (hend : Ev (fun k => L k n) a)
    (hyes : ∀ j r, j < n → P j = true → Ev (fun k => L k (j + 1)) r → Ev (fun k => L k j) r) (hno : ∀ j, j < n → P j = false → Ev (fun k => L k j) b) :
    Ev (fun k => L k 0) (if (List.range n).all P then a else b) := by
  have := Ev.all hend hyes hno 0 (Nat.zero_le _)
  rwa [Nat.sub_zero, ← List.range_eq_range'] at this

theorem wrap_id {x : Int} (h0 : -9223372036854775808 ≤ x) (h1 : x ≤ 9223372036854775807) : wrap64 x = x := by
  unfold wrap64
  omega
theorem wrap_succ {n : Nat} (h : n < 4611686018427387904) : wrap64 ((n : Int) + 1) = ((n + 1 : Nat) : Int) := by
  rw [wrap_id (by omega) (by omega)]
  omega
theorem wrap_pred {n : Nat} (h0 : 0 < n) (h : n < 4611686018427387904) : wrap64 ((n : Int) - 1) = ((n - 1 : Nat) : Int) := by
  rw [wrap_id (by omega) (by omega)]
  omega
theorem nat_nonneg (n : Nat) : (0 ≤ (n : Int)) = True := eq_true (Int.natCast_nonneg n)
def inB (a b c : Int) : Bool := decide (b ≤ a ∧ a ≤ c)
theorem l1In_eq (a b c : Int) : spec_l1In.f a b c = some (inB a b c) := by
  unfold spec_l1In.f inB
  split <;> simp <;> omega
theorem within_eq (a b c : Int) : impl_within.f a b c = some (inB a b c) := by
  unfold impl_within.f inB
  split <;> simp <;> omega
def keyB (a b c d e : Int) : Bool := inB a 0 9999 && (inB b (-90) 180 && (inB c 0 150 && (inB d (-70) 70 && inB e 0 90)))
theorem isKey_eq (a b c d e : Int) : impl_IsKey.f a b c d e = some (keyB a b c d e) := by
  unfold impl_IsKey.f keyB
  simp only [within_eq, Option.bind_some]
  cases inB a 0 9999 <;> cases inB b (-90) 180 <;> cases inB c 0 150 <;> cases inB d (-70) 70 <;> simp
theorem avOne_eq (a b c d e : Int) : spec_avOne.f a b c d e = some (keyB a b c d e) := by
  unfold spec_avOne.f spec_avFrame.f keyB
  simp only [l1In_eq, Option.bind_some]
  cases inB a 0 9999 <;> cases inB b (-90) 180 <;> cases inB c 0 150 <;> cases inB d (-70) 70 <;> simp
theorem rdK (l : List S25) (j : Nat) : rd_T25 l (j : Int) = l.getD j z25 := by simp [rd_T25]
def kat (l : List S25) (j : Nat) : S25 := l.getD j z25
theorem rdk (l : List S25) (j : Nat) : rd_T25 l (j : Int) = kat l j := rdK l j
def kOk (x : S25) : Bool := keyB x.f0 x.f1 x.f2 x.f3 x.f4
def okAt (l : List S25) (i : Nat) : Bool := kOk (kat l i) && (decide (i = 0) || decide ((kat l (i - 1)).f0 < (kat l i).f0))
def goodB (l : List S25) : Bool := if (List.range l.length).all (okAt l) then decide (l.length ≤ 15) else false

theorem avGood_ev (l : List S25) (hl : l.length < 4611686018427387904) : Ev (fun k => spec_avGood.f k l) (goodB l) := by
  unfold spec_avGood.f goodB
  refine Ev.all0 (L := fun k j => spec_avGood.l0 k l l (l.length : Int) (j : Int)) (P := okAt l) (n := l.length) ?_ ?_ ?_
  · refine Ev.succ ?_
    simp only [spec_avGood.l0, Int.lt_irrefl, if_false]
    refine Ev.eq (Ev.now _) ?_
    rw [decide_eq_decide]
    omega
  · intro j r hj hP h
    refine Ev.succ ?_
    have h1 : ((j : Int) < (l.length : Int)) = True := eq_true (by omega)
    simp only [okAt, Bool.and_eq_true, Bool.or_eq_true, decide_eq_true_eq, kOk] at hP
    simp only [spec_avGood.l0, avOne_eq, Option.bind_some, h1, if_true, nat_nonneg, rdk, wrap_succ (show j < 4611686018427387904 by omega), hP.1]
    by_cases h0 : j = 0
    · subst h0
      exact h
    · have h2 : ((j : Int) > 0) = True := eq_true (by omega)
      have h3 : (((j - 1 : Nat) : Int) < (l.length : Int)) = True := eq_true (by omega)
      have h4 : ((kat l (j - 1)).f0 ≥ (kat l j).f0) = False := eq_false (by have := hP.2.resolve_left h0; omega)
      simp only [h2, if_true, wrap_pred (show 0 < j by omega) (show j < 4611686018427387904 by omega), nat_nonneg, h3, rdk, h4, if_false]
      exact h
  · intro j hj hP
    refine Ev.succ ?_
    have h1 : ((j : Int) < (l.length : Int)) = True := eq_true (by omega)
    simp only [okAt, kOk] at hP
    simp only [spec_avGood.l0, avOne_eq, Option.bind_some, h1, if_true, nat_nonneg, rdk, wrap_succ (show j < 4611686018427387904 by omega)]
    rcases Bool.eq_false_or_eq_true (keyB (kat l j).f0 (kat l j).f1 (kat l j).f2 (kat l j).f3 (kat l j).f4) with hk | hk
    · simp only [hk, if_true]
      simp only [hk, Bool.true_and, Bool.or_eq_false_iff, decide_eq_false_iff_not] at hP
      have h2 : ((j : Int) > 0) = True := eq_true (by omega)
      have h3 : (((j - 1 : Nat) : Int) < (l.length : Int)) = True := eq_true (by omega)
      have h4 : ((kat l (j - 1)).f0 ≥ (kat l j).f0) = True := eq_true (by omega)
      simp only [h2, if_true, wrap_pred (show 0 < j by omega) (show j < 4611686018427387904 by omega), nat_nonneg, h3, rdk, h4]
      exact Ev.now _
    · simp only [hk]
      exact Ev.now _
theorem areKeys_ev (l : List S25) (hl : l.length < 4611686018427387904) : Ev (fun k => impl_AreKeys.f k l) (goodB l) := by
  unfold impl_AreKeys.f goodB
  refine Ev.all0 (L := fun k j => impl_AreKeys.l0 k l l (l.length : Int) (j : Int)) (P := okAt l) (n := l.length) ?_ ?_ ?_
  · refine Ev.succ ?_
    simp only [impl_AreKeys.l0, Int.lt_irrefl, if_false]
    refine Ev.eq (Ev.now _) ?_
    rw [decide_eq_decide]
    omega
  · intro j r hj hP h
    refine Ev.succ ?_
    have h1 : ((j : Int) < (l.length : Int)) = True := eq_true (by omega)
    simp only [okAt, Bool.and_eq_true, Bool.or_eq_true, decide_eq_true_eq, kOk] at hP
    simp only [impl_AreKeys.l0, isKey_eq, Option.bind_some, h1, if_true, nat_nonneg, rdk, wrap_succ (show j < 4611686018427387904 by omega), hP.1]
    by_cases h0 : j = 0
    · subst h0
      exact h
    · have h2 : ((j : Int) > 0) = True := eq_true (by omega)
      have h3 : (((j - 1 : Nat) : Int) < (l.length : Int)) = True := eq_true (by omega)
      have h4 : ((kat l j).f0 ≤ (kat l (j - 1)).f0) = False := eq_false (by have := hP.2.resolve_left h0; omega)
      simp only [h2, if_true, wrap_pred (show 0 < j by omega) (show j < 4611686018427387904 by omega), nat_nonneg, h3, rdk, h4, if_false]
      exact h
  · intro j hj hP
    refine Ev.succ ?_
    have h1 : ((j : Int) < (l.length : Int)) = True := eq_true (by omega)
    simp only [okAt, kOk] at hP
    simp only [impl_AreKeys.l0, isKey_eq, Option.bind_some, h1, if_true, nat_nonneg, rdk, wrap_succ (show j < 4611686018427387904 by omega)]
    rcases Bool.eq_false_or_eq_true (keyB (kat l j).f0 (kat l j).f1 (kat l j).f2 (kat l j).f3 (kat l j).f4) with hk | hk
    · simp only [hk, if_true]
      simp only [hk, Bool.true_and, Bool.or_eq_false_iff, decide_eq_false_iff_not] at hP
      have h2 : ((j : Int) > 0) = True := eq_true (by omega)
      have h3 : (((j - 1 : Nat) : Int) < (l.length : Int)) = True := eq_true (by omega)
      have h4 : ((kat l j).f0 ≤ (kat l (j - 1)).f0) = True := eq_true (by omega)
      simp only [h2, if_true, wrap_pred (show 0 < j by omega) (show j < 4611686018427387904 by omega), nat_nonneg, h3, rdk, h4]
      exact Ev.now _
    · simp only [hk]
      exact Ev.now _

theorem clone_eq (l : List S25) (hl : l.length < 3518437208883) : slices_Clone_impl_Key.f l = some l := by
  unfold slices_Clone_impl_Key.f
  simp [hl]
def str (t : Int) (x : S25) : S25 := ⟨wrap64 (x.f0 * t), x.f1, x.f2, x.f3, x.f4⟩
/-- A list made by appending. -/
theorem push_ev {β : Type} (f : S25 → S25) (l : List S25) (L : Nat → List S25 → Int → Option β) (r : β)
    (hstep : ∀ j, j < l.length → ∀ k, L (k + 1) ((l.map f).take j) (j : Int) = L k ((l.map f).take j ++ [f (kat l j)]) ((j + 1 : Nat) : Int))
    (hend : Ev (fun k => L k (l.map f) (l.length : Int)) r) : Ev (fun k => L k [] 0) r := by
  have key := Ev.upto (L := fun k j => L k ((l.map f).take j) (j : Int)) (n := l.length) (r := r)
    (by rw [List.take_of_length_le (by simp)]; exact hend)
    (by
      intro j hj h
      refine Ev.succ ?_
      simp only [hstep j hj]
      have e : (l.map f).take j ++ [f (kat l j)] = (l.map f).take (j + 1) := by
        rw [List.take_succ_eq_append_getElem (by simpa using hj)]
        simp [kat, List.getD_eq_getElem?_getD, List.getElem?_eq_getElem hj]
      rw [e]
      exact h)
    0 (Nat.zero_le _)
  simpa using key
/-- A list turned in place. -/
theorem turn_ev {β : Type} (f : S25 → S25) (l : List S25) (L : Nat → List S25 → Int → Option β) (r : β)
    (hstep : ∀ j, j < l.length → ∀ k (s : List S25), s.length = l.length → kat s j = kat l j → L (k + 1) s (j : Int) = L k (s.set j (f (kat l j))) ((j + 1 : Nat) : Int))
    (hend : Ev (fun k => L k (l.map f) (l.length : Int)) r) : Ev (fun k => L k l 0) r := by
  have key := Ev.upto (L := fun k j => L k ((l.map f).take j ++ l.drop j) (j : Int)) (n := l.length) (r := r)
    (by rw [List.take_of_length_le (by simp), List.drop_length, List.append_nil]; exact hend)
    (by
      intro j hj h
      refine Ev.succ ?_
      have hlen : ((l.map f).take j ++ l.drop j).length = l.length := by simp; omega
      have hk : kat ((l.map f).take j ++ l.drop j) j = kat l j := by
        unfold kat
        rw [List.getD_eq_getElem?_getD, List.getElem?_append_right (by simp; omega)]
        simp [Nat.min_eq_left (Nat.le_of_lt hj), List.getD_eq_getElem?_getD]
      simp only [hstep j hj _ _ hlen hk]
      have e : ((l.map f).take j ++ l.drop j).set j (f (kat l j)) = (l.map f).take (j + 1) ++ l.drop (j + 1) := by
        rw [List.set_append_right _ _ (by simp; omega)]
        have e2 : j - ((l.map f).take j).length = 0 := by simp; omega
        rw [e2, List.drop_eq_getElem_cons hj, List.set_cons_zero, List.take_succ_eq_append_getElem (by simpa using hj)]
        simp [kat, List.getD_eq_getElem?_getD, List.getElem?_eq_getElem hj]
      rw [e]
      exact h)
    0 (Nat.zero_le _)
  simpa using key

def strB (l : List S25) (t : Int) : List S25 × Bool := if goodB (l.map (str t)) then (l.map (str t), true) else ([], false)
def strR (l : List S25) (t : Int) : List S25 × Bool := if goodB l && inB t 1 20 then strB l t else ([], false)
theorem avStretch_ev (l : List S25) (t : Int) (hl : l.length ≤ 3518437208780) : Ev (fun k => spec_avStretch.f k l t) (strB l t) := by
  unfold spec_avStretch.f
  refine push_ev (str t) l (fun k s j => spec_avStretch.l0 k t s l (l.length : Int) j) _ ?_ ?_
  · intro j hj k
    have h1 : ((j : Int) < (l.length : Int)) = True := eq_true (by omega)
    have h2 : (((l.map (str t)).take j).length < 3518437208883) = True := eq_true (by simp; omega)
    simp only [spec_avStretch.l0, h1, if_true, nat_nonneg, h2, rdk, wrap_succ (show j < 4611686018427387904 by omega)]
    rfl
  · refine Ev.succ ?_
    simp only [spec_avStretch.l0, Int.lt_irrefl, if_false]
    refine Ev.bind (avGood_ev _ (by simp; omega)) ?_
    unfold strB
    rcases Bool.eq_false_or_eq_true (goodB (l.map (str t))) with hg | hg <;> simp only [hg] <;> exact Ev.now _
theorem specStretch_ev (l : List S25) (t : Int) (hl : l.length ≤ 3518437208780) : Ev (fun k => spec_StretchKeys.f k l t) (strR l t) := by
  unfold spec_StretchKeys.f strR
  refine Ev.bind (avGood_ev l (by omega)) ?_
  rcases Bool.eq_false_or_eq_true (goodB l) with hg | hg
  · simp only [hg, if_true, l1In_eq, Option.bind_some]
    rcases Bool.eq_false_or_eq_true (inB t 1 20) with hm | hm
    · simp only [hm, if_true]
      refine Ev.bind (avStretch_ev l t hl) ?_
      exact Ev.now _
    · simp only [hm]
      exact Ev.now _
  · simp only [hg]
    exact Ev.now _
theorem implStretch_ev (l : List S25) (t : Int) (hl : l.length ≤ 3518437208780) : Ev (fun k => impl_StretchKeys.f k l t) (strR l t) := by
  unfold impl_StretchKeys.f strR
  refine Ev.bind (areKeys_ev l (by omega)) ?_
  rcases Bool.eq_false_or_eq_true (goodB l) with hg | hg
  · simp only [hg, if_true, within_eq, Option.bind_some]
    refine Ev.succ ?_
    rcases Bool.eq_false_or_eq_true (inB t 1 20) with hm | hm
    · simp only [impl_StretchKeys.j0, hm, clone_eq l (by omega), Option.bind_some]
      refine turn_ev (str t) l (fun k s j => impl_StretchKeys.l0 k t s (l.length : Int) j) _ ?_ ?_
      · intro j hj k s hs hk
        have h1 : ((j : Int) < (l.length : Int)) = True := eq_true (by omega)
        simp only [impl_StretchKeys.l0, h1, if_true, nat_nonneg, rdk, hs, hk, Int.toNat_natCast, wrap_succ (show j < 4611686018427387904 by omega)]
        rfl
      · refine Ev.succ ?_
        simp only [impl_StretchKeys.l0, Int.lt_irrefl, if_false]
        refine Ev.bind (areKeys_ev _ (by simp; omega)) ?_
        simp only [Bool.true_and, if_true, strB]
        rcases Bool.eq_false_or_eq_true (goodB (l.map (str t))) with hg2 | hg2 <;> simp only [hg2] <;> exact Ev.now _
    · simp only [impl_StretchKeys.j0, hm]
      exact Ev.now _
  · simp only [hg]
    refine Ev.succ ?_
    simp only [impl_StretchKeys.j0]
    exact Ev.now _
theorem strR_length (l : List S25) (t : Int) : (strR l t).1.length ≤ l.length := by
  unfold strR strB
  split
  · split <;> simp
  · simp
def kconv (x : S23) : S25 := ⟨x.f0, x.f1, x.f2, x.f3, x.f4⟩
theorem rdKey (l : List S25) (j : Nat) : rd_T25 l (j : Int) = l.getD j z25 := by simp [rd_T25]
theorem rdKeyL (l : List S23) (j : Nat) : rd_T23 l (j : Int) = l.getD j z23 := by simp [rd_T23]

theorem toKeyS_ev (l : List S23) (hl : l.length * 40 ≤ 140737488351232) : Ev (fun k => laws_toKeyS.f k l) (l.map kconv) := by
  unfold laws_toKeyS.f
  simp only [nat_nonneg, if_true, Int.toNat_natCast, show (l.length ≤ 7036874417766) = True from eq_true (by omega)]
  have key := Ev.upto (L := fun k j => laws_toKeyS.l0 k l ((l.map kconv).take j ++ List.replicate (l.length - j) z25) (j : Int)) (r := l.map kconv) (n := l.length)
    (by
      refine Ev.succ ?_
      simp only [laws_toKeyS.l0, Int.lt_irrefl, if_false]
      simp only [Nat.sub_self, List.replicate_zero, List.append_nil]
      rw [List.take_of_length_le (by simp)]
      exact Ev.now _)
    (by
      intro j hj h
      refine Ev.succ ?_
      have h1 : ((j : Int) < (l.length : Int)) = True := eq_true (by omega)
      have hlen : ((l.map kconv).take j ++ List.replicate (l.length - j) z25).length = l.length := by simp; omega
      simp only [laws_toKeyS.l0, laws_toKey.f, Option.bind_some, h1, if_true, nat_nonneg, hlen, Int.toNat_natCast, wrap_succ (show j < 4611686018427387904 by omega), rdKeyL]
      have e : ((l.map kconv).take j ++ List.replicate (l.length - j) z25).set j (kconv (l.getD j z23)) = (l.map kconv).take (j + 1) ++ List.replicate (l.length - (j + 1)) z25 := by
        have e1 : l.length - j = (l.length - (j + 1)) + 1 := by omega
        rw [e1, List.replicate_succ, List.set_append_right _ _ (by simp; omega)]
        have e2 : j - ((l.map kconv).take j).length = 0 := by simp; omega
        rw [e2, List.set_cons_zero, List.take_succ_eq_append_getElem (by simpa using hj)]
        simp [List.getD_eq_getElem?_getD, List.getElem?_eq_getElem hj]
      have e3 : (⟨(l.getD j z23).f0, (l.getD j z23).f1, (l.getD j z23).f2, (l.getD j z23).f3, (l.getD j z23).f4⟩ : S25) = kconv (l.getD j z23) := rfl
      rw [e3, e]
      exact h)
    0 (Nat.zero_le _)
  simpa using key

theorem eqKeyS_ev (l : List S25) (hl : l.length < 4611686018427387904) : Ev (fun k => laws_eqKeyS.f k l l) true := by
  unfold laws_eqKeyS.f
  simp only [if_true]
  exact Ev.upto (L := fun k j => laws_eqKeyS.l0 k l l (j : Int)) (r := true) (n := l.length)
    (by
      refine Ev.succ ?_
      simp only [laws_eqKeyS.l0, Int.lt_irrefl, if_false]
      exact Ev.now _)
    (by
      intro j hj h
      refine Ev.succ ?_
      have h1 : ((j : Int) < (l.length : Int)) = True := eq_true (by omega)
      simp only [laws_eqKeyS.l0, laws_eqKey.f, Option.bind_some, h1, if_true, nat_nonneg, wrap_succ (show j < 4611686018427387904 by omega)]
      exact h)
    0 (Nat.zero_le _)

theorem szKeyS_some (l : List S23) (a : Int) (hl : l.length * 40 ≤ 140737488351232) (h0 : 0 ≤ a) (ha : a ≤ 1048576) : ∃ r, laws_szKeyS.f l a = some r ∧ (0 ≤ r → r = a - l.length ∧ (l.length : Int) ≤ a) := by
  unfold laws_szKeyS.f
  rw [wrap_id (by omega) (by omega)]
  split
  · exact ⟨_, rfl, fun h => absurd h (by decide)⟩
  · exact ⟨_, rfl, fun h => ⟨rfl, by omega⟩⟩

def markKey (a : Int) : S25 := ⟨a, a + 1, a + 2, a + 3, a + 4⟩
def markKeys (a : Int) (n : Nat) : List S25 := (List.range n).map fun i : Nat => markKey (a + 5 * (i : Int))
theorem markKeys_length (a : Int) (n : Nat) : (markKeys a n).length = n := by simp [markKeys]
theorem markKeys_succ (a : Int) (n : Nat) : markKeys a (n + 1) = markKeys a n ++ [markKey (a + 5 * n)] := by simp [markKeys, List.range_succ]
theorem markKeys_get (a : Int) (n j : Nat) (h : j < n) : (markKeys a n).getD j z25 = markKey (a + 5 * j) := by
  simp [markKeys, List.getD_eq_getElem?_getD, h]

theorem markKeyS_ev (l : List S25) (a : Int) (h0 : 0 ≤ a) (ha : a + 5 * l.length < 4611686018427387904) : Ev (fun k => laws_markKeyS.f k l a) (a + 5 * l.length, markKeys a l.length) := by
  unfold laws_markKeyS.f
  have key := Ev.upto (L := fun k j => laws_markKeyS.l0 k (markKeys a j ++ l.drop j) (a + 5 * j) (j : Int)) (r := (a + 5 * l.length, markKeys a l.length)) (n := l.length)
    (by
      refine Ev.succ ?_
      have hlen : (markKeys a l.length ++ l.drop l.length).length = l.length := by simp [markKeys_length]
      simp only [laws_markKeyS.l0, hlen, Int.lt_irrefl, if_false]
      simp only [List.drop_length, List.append_nil]
      exact Ev.now _)
    (by
      intro j hj h
      refine Ev.succ ?_
      have hlen : (markKeys a j ++ l.drop j).length = l.length := by simp [markKeys_length]; omega
      have h1 : ((j : Int) < (l.length : Int)) = True := eq_true (by omega)
      have hs : ∀ v, rd_T25 ((markKeys a j ++ l.drop j).set j v) (j : Int) = v := by
        intro v
        rw [rdKey, List.getD_eq_getElem?_getD, List.getElem?_set_self (by omega)]
        rfl
      simp only [laws_markKeyS.l0, Option.bind_some, hlen, h1, if_true, nat_nonneg, Int.toNat_natCast, List.set_set, hs, wrap_succ (show j < 4611686018427387904 by omega)]
      rw [wrap_id (x := a + 5 * (j : Int) + 1) (by omega) (by omega), wrap_id (x := a + 5 * (j : Int) + 1 + 1) (by omega) (by omega), wrap_id (x := a + 5 * (j : Int) + 1 + 1 + 1) (by omega) (by omega), wrap_id (x := a + 5 * (j : Int) + 1 + 1 + 1 + 1) (by omega) (by omega), wrap_id (x := a + 5 * (j : Int) + 1 + 1 + 1 + 1 + 1) (by omega) (by omega)]
      have e : (markKeys a j ++ l.drop j).set j (markKey (a + 5 * j)) = markKeys a (j + 1) ++ l.drop (j + 1) := by
        rw [List.set_append_right _ _ (by simp [markKeys_length]), markKeys_length, Nat.sub_self, List.drop_eq_getElem_cons hj, List.set_cons_zero, markKeys_succ, List.append_assoc]
        rfl
      have e2 : (⟨a + 5 * (j : Int), a + 5 * (j : Int) + 1, a + 5 * (j : Int) + 1 + 1, a + 5 * (j : Int) + 1 + 1 + 1, a + 5 * (j : Int) + 1 + 1 + 1 + 1⟩ : S25) = markKey (a + 5 * j) := by
        simp only [markKey, S25.mk.injEq]
        refine ⟨trivial, trivial, ?_, ?_, ?_⟩ <;> omega
      rw [e2, e, show a + 5 * (j : Int) + 1 + 1 + 1 + 1 + 1 = a + 5 * ((j + 1 : Nat) : Int) by omega]
      exact h)
    0 (Nat.zero_le _)
  simpa [markKeys] using key

theorem heldKeyS_ev (n : Nat) (a : Int) (h0 : 0 ≤ a) (ha : a + 5 * n < 4611686018427387904) : Ev (fun k => laws_heldKeyS.f k (markKeys a n) a) (a + 5 * n) := by
  unfold laws_heldKeyS.f
  have key := Ev.upto (L := fun k j => laws_heldKeyS.l0 k (markKeys a n) (a + 5 * j) (j : Int)) (r := a + 5 * (n : Int)) (n := n)
    (by
      refine Ev.succ ?_
      simp only [laws_heldKeyS.l0, markKeys_length, Int.lt_irrefl, if_false]
      exact Ev.now _)
    (by
      intro j hj h
      refine Ev.succ ?_
      have h1 : ((j : Int) < (n : Int)) = True := eq_true (by omega)
      simp only [laws_heldKeyS.l0, markKeys_length, h1, if_true, nat_nonneg, rdKey, markKeys_get a n j hj, markKey, wrap_succ (show j < 4611686018427387904 by omega)]
      rw [wrap_id (x := a + 5 * (j : Int) + 1) (by omega) (by omega), wrap_id (x := a + 5 * (j : Int) + 1 + 1) (by omega) (by omega), wrap_id (x := a + 5 * (j : Int) + 1 + 1 + 1) (by omega) (by omega), wrap_id (x := a + 5 * (j : Int) + 1 + 1 + 1 + 1) (by omega) (by omega), wrap_id (x := a + 5 * (j : Int) + 1 + 1 + 1 + 1 + 1) (by omega) (by omega)]
      simp only [show (a + 5 * (j : Int) + 2 = a + 5 * (j : Int) + 1 + 1) = True from eq_true (by omega), show (a + 5 * (j : Int) + 3 = a + 5 * (j : Int) + 1 + 1 + 1) = True from eq_true (by omega), show (a + 5 * (j : Int) + 4 = a + 5 * (j : Int) + 1 + 1 + 1 + 1) = True from eq_true (by omega), if_true, show a + 5 * (j : Int) + 1 + 1 + 1 + 1 + 1 = a + 5 * ((j + 1 : Nat) : Int) by omega]
      exact h)
    0 (Nat.zero_le _)
  simpa using key
end Go.Proofs.Ytfnegjnklhfmaaa.Pure
namespace Go.Proofs.Ytfnegjnklhfmaaa.Pure
open Go.RowKit Go.Proofs.Ytfnegjnklhfmaaa.Q Go.Proofs.YtfnegjnklhfmaaaW.PrintWords Go.Proofs.YtfnegjnklhfmaaaW.PrintLast

theorem FnExactStretchKeys : laws_FnExactStretchKeys.Pure := by
  intro l t h _ _
  obtain ⟨r, hr, hb⟩ := szKeyS_some l 1048576 h (by decide) (by decide)
  refine Ev.rounds ?_
  unfold laws_FnExactStretchKeys.f
  simp only [hr, Option.bind_some]
  by_cases h0 : r < 0
  · simp only [eq_true h0, if_true]
    exact Ev.now _
  simp only [eq_false h0, if_false]
  have hm : (l.map kconv).length ≤ 3518437208780 := by rw [List.length_map]; omega
  have hle := strR_length (l.map kconv) t
  have hi : (strR (l.map kconv) t).1.length < 4611686018427387904 := by omega
  refine Ev.bind (toKeyS_ev l h) ?_
  refine Ev.bind (specStretch_ev _ t hm) ?_
  refine Ev.bind (toKeyS_ev l h) ?_
  refine Ev.bind (implStretch_ev _ t hm) ?_
  refine Ev.bind (eqKeyS_ev _ hi) ?_
  simp only [bne_self_eq_false, if_true]
  refine Ev.succ ?_
  simp only [laws_FnExactStretchKeys.j0]
  refine Ev.bind (toKeyS_ev l h) ?_
  refine Ev.bind (eqKeyS_ev _ (by omega)) ?_
  simp only [if_true]
  refine Ev.bind (markKeyS_ev _ 1 (by decide) (by omega)) ?_
  simp only [show (1 + 5 * ((l.map kconv).length : Int) < 0) = False from eq_false (by omega), if_false]
  refine Ev.bind (eqKeyS_ev _ hi) ?_
  simp only [bne_self_eq_false, if_true]
  refine Ev.succ ?_
  simp only [laws_FnExactStretchKeys.j1]
  refine Ev.bind (markKeyS_ev _ 1 (by decide) (by omega)) ?_
  refine Ev.bind (heldKeyS_ev _ 1 (by decide) (by omega)) ?_
  simp only [show (1 + 5 * ((strR (l.map kconv) t).1.length : Int) < 0) = False from eq_false (by omega), if_false, if_true]
  refine Ev.bind (toKeyS_ev l h) ?_
  refine Ev.bind (implStretch_ev _ t hm) ?_
  refine Ev.bind (eqKeyS_ev _ hi) ?_
  simp only [bne_self_eq_false, if_true]
  refine Ev.succ ?_
  simp only [laws_FnExactStretchKeys.j2]
  refine Ev.bind (heldKeyS_ev _ 1 (by decide) (by omega)) ?_
  simp only [show (1 + 5 * ((strR (l.map kconv) t).1.length : Int) < 0) = False from eq_false (by omega), if_false, if_true]
  exact Ev.now _
end Go.Proofs.Ytfnegjnklhfmaaa.Pure
