/- For all lists of keys and keys, the program's PutKey returns what the reference's PutKey returns, leaves the list alone, and hands back memory of its own. No condition. -/
import Derived.Test.YtcpkobahiciadaaQBLawsEqKey
import Derived.Test.YtcpkobahiciadaaQBLawsSzKeyS
import Derived.Test.YtcpkobahiciadaaQBLawsToKey
import Derived.Test.YtcpkobahiciadaaQBSlicesCloneImplKey
import Derived.Test.YtcpkobahiciadaaQImplAreKeys
import Derived.Test.YtcpkobahiciadaaQImplPutKey
import Derived.Test.YtcpkobahiciadaaQLawsFnExactPutKey
import Derived.Test.YtcpkobahiciadaaQSlicesDeleteFuncImplKey
import Derived.Test.YtcpkobahiciadaaQSlicesSortFuncImplKey
import Derived.Test.YtcpkobahiciadaaQSpecAvGood
import Derived.Test.YtcpkobahiciadaaQSpecPutKey
import Derived.Test.YtcpkobahiciadaaQ0
import Derived.Test.YtcpkobahiciadaaWWords
import Derived.Lib.Slices
set_option linter.unusedVariables false
set_option linter.unusedSimpArgs false
namespace Go.Proofs.Ytcpkobahiciadaa.Pure
open Go.RowKit Go.Proofs.Ytcpkobahiciadaa.Q Go.Proofs.YtcpkobahiciadaaW.PrintLast Go.Proofs.YtcpkobahiciadaaW.PrintWords
theorem Ev.succ {α : Type} {g : Nat → Option α} {r : α} (h : Ev (fun k => g (k + 1)) r) : Ev g r := Ev.step (fun _ => rfl) h
theorem Ev.k {α : Type} {g : Nat → Option α} {o : Option α} {r : α} (hg : ∀ k, g k = o) (h : o = some r) : Ev g r := ⟨0, fun k _ => (hg k).trans h⟩
theorem Ev.eq {α : Type} {g : Nat → Option α} {r r' : α} (h : Ev g r) (e : r = r') : Ev g r' := e ▸ h
/-- From round i up to round n. -/
theorem Ev.upto {β : Type} {L : Nat → Nat → Option β} {r : β} {n : Nat} (hend : Ev (fun k => L k n) r)
  (hstep : ∀ j, j < n → Ev (fun k => L k (j + 1)) r → Ev (fun k => L k j) r) : ∀ i, i ≤ n → Ev (fun k => L k i) r := by
 intro i hi
 obtain ⟨d, hd⟩ : ∃ d, n = i + d := ⟨n - i, by omega⟩
 induction d generalizing i with
 | zero => simp at hd; subst hd; exact hend
 | succ d ih => exact hstep i (by omega) (ih (i + 1) (by omega) (by omega))
/-- A loop that ends early where P fails. -/
theorem Ev.all {β : Type} {L : Nat → Nat → Option β} {P : Nat → Bool} {n : Nat} {a b : β} (hend : Ev (fun k => L k n) a)
  (hyes : ∀ j r, j < n → P j = true → Ev (fun k => L k (j + 1)) r → Ev (fun k => L k j) r) (hno : ∀ j, j < n → P j = false → Ev (fun k => L k j) b) :
  ∀ i, i ≤ n → Ev (fun k => L k i) (if (List.range' i (n - i)).all P then a else b) := by
 intro i hi
 obtain ⟨d, hd⟩ : ∃ d, n = i + d := ⟨n - i, by omega⟩
 induction d generalizing i with
 | zero => simp at hd; subst hd; simpa using hend
 | succ d ih =>
  have h1 : n - i = (n - (i + 1)) + 1 := by omega
  rw [h1, List.range'_succ]
  simp only [List.all_cons]
  rcases Bool.eq_false_or_eq_true (P i) with hP | hP
  ·simp only [hP, Bool.true_and]
   exact hyes i _ (by omega) hP (ih (i + 1) (by omega) (by omega))
  ·simpa [hP] using hno i (by omega) hP
theorem Ev.all0 {β : Type} {L : Nat → Nat → Option β} {P : Nat → Bool} {n : Nat} {a b : β} (hend : Ev (fun k => L k n) a)
  (hyes : ∀ j r, j < n → P j = true → Ev (fun k => L k (j + 1)) r → Ev (fun k => L k j) r) (hno : ∀ j, j < n → P j = false → Ev (fun k => L k j) b) :
  Ev (fun k => L k 0) (if (List.range n).all P then a else b) := by
 have := Ev.all hend hyes hno 0 (Nat.zero_le _)
 rwa [Nat.sub_zero, ← List.range_eq_range'] at this

theorem wrap_id {x : Int} (h0 : -9223372036854775808 ≤ x) (h1 : x ≤ 9223372036854775807) : wrap64 x = x := by
 unfold wrap64
 omega
theorem wrap_succ {n : Nat} (h : n < 4611686018427387904) : wrap64 ((n : Int) + 1) = ((n + 1 : Nat) : Int) := by
 rw [wrap_id (by omega) (by omega)]
 omega
theorem wrap_pred {n : Nat} (h0 : 0 < n) (h : n < 4611686018427387904) : wrap64 ((n : Int) - 1) = ((n - 1 : Nat) : Int) := by
 rw [wrap_id (by omega) (by omega)]
 omega
theorem nat_nonneg (n : Nat) : (0 ≤ (n : Int)) = True := eq_true (Int.natCast_nonneg n)
def inB (a b c : Int) : Bool := decide (b ≤ a ∧ a ≤ c)
theorem l1In_eq (a b c : Int) : spec_l1In.f a b c = some (inB a b c) := by
 unfold spec_l1In.f inB
 split <;> simp <;> omega
theorem within_eq (a b c : Int) : impl_within.f a b c = some (inB a b c) := by
 unfold impl_within.f inB
 split <;> simp <;> omega
def keyB (a b c d e : Int) : Bool := inB a 0 9999 && (inB b (-90) 180 && (inB c 0 150 && (inB d (-70) 70 && inB e 0 90)))
theorem isKey_eq (a b c d e : Int) : impl_IsKey.f a b c d e = some (keyB a b c d e) := by
 unfold impl_IsKey.f keyB
 simp only [within_eq, Option.bind_some]
 cases inB a 0 9999 <;> cases inB b (-90) 180 <;> cases inB c 0 150 <;> cases inB d (-70) 70 <;> simp
theorem avOne_eq (a b c d e : Int) : spec_avOne.f a b c d e = some (keyB a b c d e) := by
 unfold spec_avOne.f spec_avFrame.f keyB
 simp only [l1In_eq, Option.bind_some]
 cases inB a 0 9999 <;> cases inB b (-90) 180 <;> cases inB c 0 150 <;> cases inB d (-70) 70 <;> simp
theorem rdK (l : List S48) (j : Nat) : rd_T48 l (j : Int) = l.getD j z48 := by simp [rd_T48]
def kat (l : List S48) (j : Nat) : S48 := l.getD j z48
theorem rdk (l : List S48) (j : Nat) : rd_T48 l (j : Int) = kat l j := rdK l j
def kOk (x : S48) : Bool := keyB x.f0 x.f1 x.f2 x.f3 x.f4
def okAt (l : List S48) (i : Nat) : Bool := kOk (kat l i) && (decide (i = 0) || decide ((kat l (i - 1)).f0 < (kat l i).f0))
def goodB (l : List S48) : Bool := if (List.range l.length).all (okAt l) then decide (l.length ≤ 15) else false

theorem avGood_ev (l : List S48) (hl : l.length < 4611686018427387904) : Ev (fun k => spec_avGood.f k l) (goodB l) := by
 unfold spec_avGood.f goodB
 refine Ev.all0 (L := fun k j => spec_avGood.l0 k l l (l.length : Int) (j : Int)) (P := okAt l) (n := l.length) ?_ ?_ ?_
 ·refine Ev.succ ?_
  simp only [spec_avGood.l0, Int.lt_irrefl, if_false]
  refine Ev.eq (Ev.now _) ?_
  rw [decide_eq_decide]
  omega
 ·intro j r hj hP h
  refine Ev.succ ?_
  have h1 : ((j : Int) < (l.length : Int)) = True := eq_true (by omega)
  simp only [okAt, Bool.and_eq_true, Bool.or_eq_true, decide_eq_true_eq, kOk] at hP
  simp only [spec_avGood.l0, avOne_eq, Option.bind_some, h1, if_true, nat_nonneg, rdk, wrap_succ (show j < 4611686018427387904 by omega), hP.1]
  by_cases h0 : j = 0
  ·subst h0
   exact h
  ·have h2 : ((j : Int) > 0) = True := eq_true (by omega)
   have h3 : (((j - 1 : Nat) : Int) < (l.length : Int)) = True := eq_true (by omega)
   have h4 : ((kat l (j - 1)).f0 ≥ (kat l j).f0) = False := eq_false (by have := hP.2.resolve_left h0; omega)
   simp only [h2, if_true, wrap_pred (show 0 < j by omega) (show j < 4611686018427387904 by omega), nat_nonneg, h3, rdk, h4, if_false]
   exact h
 ·intro j hj hP
  refine Ev.succ ?_
  have h1 : ((j : Int) < (l.length : Int)) = True := eq_true (by omega)
  simp only [okAt, kOk] at hP
  simp only [spec_avGood.l0, avOne_eq, Option.bind_some, h1, if_true, nat_nonneg, rdk, wrap_succ (show j < 4611686018427387904 by omega)]
  rcases Bool.eq_false_or_eq_true (keyB (kat l j).f0 (kat l j).f1 (kat l j).f2 (kat l j).f3 (kat l j).f4) with hk | hk
  ·simp only [hk, if_true]
   simp only [hk, Bool.true_and, Bool.or_eq_false_iff, decide_eq_false_iff_not] at hP
   have h2 : ((j : Int) > 0) = True := eq_true (by omega)
   have h3 : (((j - 1 : Nat) : Int) < (l.length : Int)) = True := eq_true (by omega)
   have h4 : ((kat l (j - 1)).f0 ≥ (kat l j).f0) = True := eq_true (by omega)
   simp only [h2, if_true, wrap_pred (show 0 < j by omega) (show j < 4611686018427387904 by omega), nat_nonneg, h3, rdk, h4]
   exact Ev.now _
  ·simp only [hk]
   exact Ev.now _
theorem areKeys_ev (l : List S48) (hl : l.length < 4611686018427387904) : Ev (fun k => impl_AreKeys.f k l) (goodB l) := by
 unfold impl_AreKeys.f goodB
 refine Ev.all0 (L := fun k j => impl_AreKeys.l0 k l l (l.length : Int) (j : Int)) (P := okAt l) (n := l.length) ?_ ?_ ?_
 ·refine Ev.succ ?_
  simp only [impl_AreKeys.l0, Int.lt_irrefl, if_false]
  refine Ev.eq (Ev.now _) ?_
  rw [decide_eq_decide]
  omega
 ·intro j r hj hP h
  refine Ev.succ ?_
  have h1 : ((j : Int) < (l.length : Int)) = True := eq_true (by omega)
  simp only [okAt, Bool.and_eq_true, Bool.or_eq_true, decide_eq_true_eq, kOk] at hP
  simp only [impl_AreKeys.l0, isKey_eq, Option.bind_some, h1, if_true, nat_nonneg, rdk, wrap_succ (show j < 4611686018427387904 by omega), hP.1]
  by_cases h0 : j = 0
  ·subst h0
   exact h
  ·have h2 : ((j : Int) > 0) = True := eq_true (by omega)
   have h3 : (((j - 1 : Nat) : Int) < (l.length : Int)) = True := eq_true (by omega)
   have h4 : ((kat l j).f0 ≤ (kat l (j - 1)).f0) = False := eq_false (by have := hP.2.resolve_left h0; omega)
   simp only [h2, if_true, wrap_pred (show 0 < j by omega) (show j < 4611686018427387904 by omega), nat_nonneg, h3, rdk, h4, if_false]
   exact h
 ·intro j hj hP
  refine Ev.succ ?_
  have h1 : ((j : Int) < (l.length : Int)) = True := eq_true (by omega)
  simp only [okAt, kOk] at hP
  simp only [impl_AreKeys.l0, isKey_eq, Option.bind_some, h1, if_true, nat_nonneg, rdk, wrap_succ (show j < 4611686018427387904 by omega)]
  rcases Bool.eq_false_or_eq_true (keyB (kat l j).f0 (kat l j).f1 (kat l j).f2 (kat l j).f3 (kat l j).f4) with hk | hk
  ·simp only [hk, if_true]
   simp only [hk, Bool.true_and, Bool.or_eq_false_iff, decide_eq_false_iff_not] at hP
   have h2 : ((j : Int) > 0) = True := eq_true (by omega)
   have h3 : (((j - 1 : Nat) : Int) < (l.length : Int)) = True := eq_true (by omega)
   have h4 : ((kat l j).f0 ≤ (kat l (j - 1)).f0) = True := eq_true (by omega)
   simp only [h2, if_true, wrap_pred (show 0 < j by omega) (show j < 4611686018427387904 by omega), nat_nonneg, h3, rdk, h4]
   exact Ev.now _
  ·simp only [hk]
   exact Ev.now _

theorem kOk_iff (x : S48) : kOk x = true ↔ (0 ≤ x.f0 ∧ x.f0 ≤ 9999) ∧ (-90 ≤ x.f1 ∧ x.f1 ≤ 180) ∧ (0 ≤ x.f2 ∧ x.f2 ≤ 150) ∧ (-70 ≤ x.f3 ∧ x.f3 ≤ 70) ∧ (0 ≤ x.f4 ∧ x.f4 ≤ 90) := by
 simp [kOk, keyB, inB]
def Inc (l : List S48) : Prop := l.Pairwise fun a b => a.f0 < b.f0
theorem inc_same {s t : List S48} (hs : Inc s) (ht : Inc t) (h : ∀ x, x ∈ s ↔ x ∈ t) : s = t := by
 have n1 : s.Nodup := hs.imp (fun h e => by rw [e] at h; exact absurd h (Int.lt_irrefl _))
 have n2 : t.Nodup := ht.imp (fun h e => by rw [e] at h; exact absurd h (Int.lt_irrefl _))
 have hp : s.Perm t := (List.perm_ext_iff_of_nodup n1 n2).2 h
 exact List.Perm.eq_of_pairwise (le := fun (a b : S48) => a.f0 < b.f0) (fun a b _ _ (h1 : a.f0 < b.f0) (h2 : b.f0 < a.f0) => absurd h1 (by omega)) hs ht hp
/-- l with k at its frame. -/
def putT (l : List S48) (k : S48) : List S48 := (l.filter fun x => decide (x.f0 < k.f0)) ++ [k] ++ (l.filter fun x => decide (k.f0 < x.f0))
theorem putT_mem (l : List S48) (k x : S48) : x ∈ putT l k ↔ x = k ∨ (x ∈ l ∧ x.f0 ≠ k.f0) := by
 unfold putT
 simp only [List.mem_append, List.mem_filter, List.mem_singleton, decide_eq_true_eq]
 constructor
 ·rintro ((⟨h, h2⟩ | h) | ⟨h, h2⟩)
  ·exact .inr ⟨h, by omega⟩
  ·exact .inl h
  ·exact .inr ⟨h, by omega⟩
 ·rintro (h | ⟨h, h2⟩)
  ·exact .inl (.inr h)
  ·rcases Int.lt_or_gt_of_ne h2 with h3 | h3
   ·exact .inl (.inl ⟨h, h3⟩)
   ·exact .inr ⟨h, h3⟩
theorem putT_inc {l : List S48} (k : S48) (h : Inc l) : Inc (putT l k) := by
 unfold Inc putT
 rw [List.pairwise_append, List.pairwise_append]
 refine ⟨⟨h.sublist List.filter_sublist, List.pairwise_singleton _ _, fun a ha b hb => ?_⟩, h.sublist List.filter_sublist, fun a ha b hb => ?_⟩
 ·rw [List.mem_singleton.1 hb]
  exact of_decide_eq_true (List.mem_filter.1 ha).2
 ·have h2 := of_decide_eq_true (List.mem_filter.1 hb).2
  rcases List.mem_append.1 ha with ha | ha
  ·have h1 := of_decide_eq_true (List.mem_filter.1 ha).2
   omega
  ·rw [List.mem_singleton.1 ha]; exact h2
theorem putT_length (l : List S48) (k : S48) (hi : Inc l) : (putT l k).length ≤ l.length + 1 := by
 have h : (putT l k).Nodup := (putT_inc k hi).imp (fun h e => by rw [e] at h; exact absurd h (Int.lt_irrefl _))
 have h2 : (l.filter fun x => decide (x.f0 < k.f0)).length + (l.filter fun x => decide (k.f0 < x.f0)).length ≤ l.length := by
  clear h hi
  induction l with
  | nil => simp
  | cons x l ih =>
   rw [List.filter_cons, List.filter_cons]
   by_cases h1 : x.f0 < k.f0
   ·have h3 : ¬ k.f0 < x.f0 := by omega
    simp only [h1, h3, decide_true, decide_false, if_true, Bool.false_eq_true, if_false, List.length_cons]; omega
   ·by_cases h3 : k.f0 < x.f0
    ·simp only [h1, h3, decide_true, decide_false, if_true, Bool.false_eq_true, if_false, List.length_cons]; omega
    ·simp only [h1, h3, decide_false, Bool.false_eq_true, if_false, List.length_cons]; omega
 unfold putT
 rw [List.length_append, List.length_append, List.length_singleton]
 omega
theorem good_inc {l : List S48} (h : goodB l = true) : Inc l ∧ l.length ≤ 15 ∧ ∀ x, x ∈ l → kOk x = true := by
 unfold goodB at h
 split at h
 ·rename_i h1
  have h2 := of_decide_eq_true h
  have hk : ∀ i, i < l.length → okAt l i = true := by simpa using h1
  have hg : ∀ i (hi : i < l.length), kat l i = l[i] := fun i hi => by unfold kat; rw [List.getD_eq_getElem?_getD, List.getElem?_eq_getElem hi]; rfl
  refine ⟨?_, h2, fun x hx => ?_⟩
  ·unfold Inc
   rw [List.pairwise_iff_getElem]
   intro i j hi hj hij
   obtain ⟨d, rfl⟩ : ∃ d, j = i + 1 + d := ⟨j - (i + 1), by omega⟩
   clear hij
   have step : ∀ i (hi : i + 1 < l.length), (l[i]'(by omega)).f0 < l[i + 1].f0 := fun i hi => by
    have := hk (i + 1) hi
    unfold okAt at this
    rw [Bool.and_eq_true, Nat.add_sub_cancel, hg (i + 1) hi, hg i (by omega)] at this
    simpa using this.2
   induction d with
   | zero => exact step i hj
   | succ d ih => exact Int.lt_trans (ih (by omega) step) (step (i + 1 + d) hj)
  ·obtain ⟨i, hi, rfl⟩ := List.mem_iff_getElem.1 hx
   have := hk i hi
   unfold okAt at this
   rw [Bool.and_eq_true, hg i hi] at this
   exact this.1
 ·cases h
def finK (t : List S48) : List S48 × Bool := if goodB t = true then (t, true) else ([], false)
theorem finK_length (t : List S48) : (finK t).1.length ≤ t.length := by
 unfold finK
 split
 ·exact Nat.le_refl _
 ·simp
/-! the reference -/
theorem putS_t (l : List S48) (n : Nat) (hn : n ≤ l.length) (hl : l.length ≤ 15) (y : S48) (D : List S48) (hD : D.length ≤ 15) (a b c d e : Int) : Ev (fun k => spec_PutKey.j3 k l (n : Int) (y :: D) true a b c d e) (finK (l.take n ++ [⟨a, b, c, d, e⟩] ++ D)) := by
 refine Ev.succ ?_
 have l1 : (l.take n).length = n := by rw [List.length_take]; omega
 have l2 : (l.take n ++ [(⟨a, b, c, d, e⟩ : S48)]).length = n + 1 := by rw [List.length_append, l1, List.length_singleton]
 simp only [spec_PutKey.j3, if_true, List.length_cons, show ((1 : Int) ≤ ((D.length + 1 : Nat) : Int)) = True from eq_true (by omega), Option.bind_some, List.drop_succ_cons, List.drop_zero, nat_nonneg, show ((n : Int) ≤ (l.length : Int)) = True from eq_true (by omega), Int.toNat_natCast, List.nil_append, List.length_nil, Nat.zero_add, l1, l2,
  show (n < 3518437208883) = True from eq_true (by omega), show (0 + 1 < 3518437208883) = True from eq_true (by omega), show (n + 1 < 3518437208883) = True from eq_true (by omega), show (n + 1 + D.length < 3518437208883) = True from eq_true (by omega)]
 refine Ev.bind (avGood_ev _ (by rw [List.length_append, l2]; omega)) ?_
 unfold finK
 split
 ·exact Ev.now _
 ·exact Ev.now _
theorem putS_f (l : List S48) (n : Nat) (hn : n ≤ l.length) (hl : l.length ≤ 15) (D : List S48) (hD : D.length ≤ 15) (a b c d e : Int) : Ev (fun k => spec_PutKey.j3 k l (n : Int) D false a b c d e) (finK (l.take n ++ [⟨a, b, c, d, e⟩] ++ D)) := by
 refine Ev.succ ?_
 have l1 : (l.take n).length = n := by rw [List.length_take]; omega
 have l2 : (l.take n ++ [(⟨a, b, c, d, e⟩ : S48)]).length = n + 1 := by rw [List.length_append, l1, List.length_singleton]
 simp only [spec_PutKey.j3, Bool.false_eq_true, if_false, if_true, Option.bind_some, nat_nonneg, show ((n : Int) ≤ (l.length : Int)) = True from eq_true (by omega), Int.toNat_natCast, List.nil_append, List.length_nil, Nat.zero_add, List.length_singleton, l1, l2,
  show (n < 3518437208883) = True from eq_true (by omega), show (0 + 1 < 3518437208883) = True from eq_true (by omega), show (n + 1 < 3518437208883) = True from eq_true (by omega), show (n + 1 + D.length < 3518437208883) = True from eq_true (by omega)]
 refine Ev.bind (avGood_ev _ (by rw [List.length_append, l2]; omega)) ?_
 unfold finK
 split
 ·exact Ev.now _
 ·exact Ev.now _
theorem putS_j2 (l : List S48) (hi : Inc l) (hl : l.length ≤ 15) (a b c d e : Int) (n : Nat) (hn : n ≤ l.length) (h1 : ∀ x, x ∈ l.take n → x.f0 < a) (h2 : ∀ x, x ∈ l.drop n → ¬ x.f0 < a) : Ev (fun k => spec_PutKey.j2 k l (n : Int) a b c d e) (finK (putT l ⟨a, b, c, d, e⟩)) := by
 have hsplit := List.take_append_drop n l
 have hdl : (l.drop n).length ≤ 15 := by rw [List.length_drop]; omega
 have hid : Inc (l.drop n) := hi.sublist (List.drop_sublist _ _)
 have hit : Inc (l.take n) := hi.sublist (List.take_sublist _ _)
 -- what is made is in order, and holds what putT holds
 have same : ∀ D : List S48, Inc D → (∀ x, x ∈ D ↔ x ∈ l.drop n ∧ x.f0 ≠ a) → l.take n ++ [⟨a, b, c, d, e⟩] ++ D = putT l ⟨a, b, c, d, e⟩ := by
  intro D hD hm
  refine inc_same ?_ (putT_inc _ hi) fun x => ?_
  ·unfold Inc
   rw [List.pairwise_append, List.pairwise_append]
   refine ⟨⟨hit, List.pairwise_singleton _ _, fun x hx y hy => by rw [List.mem_singleton.1 hy]; exact h1 x hx⟩, hD, fun x hx y hy => ?_⟩
   obtain ⟨y1, y2⟩ := (hm y).1 hy
   have y3 := h2 y y1
   rcases List.mem_append.1 hx with hx | hx
   ·have := h1 x hx; omega
   ·rw [List.mem_singleton.1 hx]; show a < y.f0; omega
  ·rw [putT_mem, List.mem_append, List.mem_append, List.mem_singleton, hm]
   show _ ↔ x = _ ∨ (x ∈ l ∧ x.f0 ≠ a)
   rw [← hsplit, List.mem_append, List.take_append_drop]
   constructor
   ·rintro ((h | h) | ⟨h, h3⟩)
    ·exact .inr ⟨.inl h, by have := h1 x h; omega⟩
    ·exact .inl h
    ·exact .inr ⟨.inr h, h3⟩
   ·rintro (h | ⟨h | h, h3⟩)
    ·exact .inl (.inr h)
    ·exact .inl (.inl h)
    ·exact .inr ⟨h, h3⟩
 refine Ev.succ ?_
 simp only [spec_PutKey.j2, nat_nonneg, show ((n : Int) ≤ (l.length : Int)) = True from eq_true (by omega), if_true, Option.bind_some, Int.toNat_natCast]
 cases hd : l.drop n with
 | nil =>
  simp only [List.length_nil, Int.natCast_zero, show ((0 : Int) > 0) = False from eq_false (Int.lt_irrefl _), if_false]
  rw [← same [] List.Pairwise.nil (fun x => by rw [hd]; simp)]
  exact putS_f l n hn hl [] (by simp) a b c d e
 | cons y D =>
  rw [hd] at hdl hid h2 same
  obtain ⟨hy, hD⟩ := List.pairwise_cons.1 hid
  rw [List.length_cons] at hdl
  have hrd : rd_T48 (y :: D) 0 = y := by
   have := rdk (y :: D) 0
   exact this
  simp only [List.length_cons, show (((D.length + 1 : Nat) : Int) > 0) = True from eq_true (by omega), show ((0 : Int) < ((D.length + 1 : Nat) : Int)) = True from eq_true (by omega), if_true, hrd]
  by_cases hq : y.f0 = a
  ·rw [beq_iff_eq.2 hq, ← same D hD (fun x => ?_)]
   ·exact putS_t l n hn hl y D (by omega) a b c d e
   ·constructor
    ·intro h; exact ⟨List.mem_cons_of_mem _ h, by have := hy x h; omega⟩
    ·rintro ⟨h, h3⟩
     rcases List.mem_cons.1 h with rfl | h
     ·exact absurd hq h3
     ·exact h
  ·rw [beq_eq_false_iff_ne.2 hq, ← same (y :: D) hid (fun x => ?_)]
   ·exact putS_f l n hn hl (y :: D) (by rw [List.length_cons]; omega) a b c d e
   ·refine ⟨fun h => ⟨h, ?_⟩, fun h => h.1⟩
    rcases List.mem_cons.1 h with rfl | h
    ·exact hq
    ·have h5 := hy x h
     have h6 := h2 y (List.mem_cons_self ..)
     omega
theorem putS_l0 (l : List S48) (hi : Inc l) (hl : l.length ≤ 15) (a b c d e : Int) : ∀ m n, n + m = l.length → (∀ x, x ∈ l.take n → x.f0 < a) → Ev (fun k => spec_PutKey.l0 k l (n : Int) a b c d e) (finK (putT l ⟨a, b, c, d, e⟩)) := by
 intro m
 induction m with
 | zero =>
  intro n hn h1
  refine Ev.succ ?_
  simp only [spec_PutKey.l0, show ((n : Int) < (l.length : Int)) = False from eq_false (by omega), if_false]
  exact putS_j2 l hi hl a b c d e n (by omega) h1 (by rw [List.drop_of_length_le (by omega)]; intro x hx; cases hx)
 | succ m ih =>
  intro n hn h1
  have hlt : n < l.length := by omega
  have hk : kat l n = l[n] := by unfold kat; rw [List.getD_eq_getElem?_getD, List.getElem?_eq_getElem hlt]; rfl
  refine Ev.succ ?_
  simp only [spec_PutKey.l0, show ((n : Int) < (l.length : Int)) = True from eq_true (by omega), if_true, nat_nonneg, rdk, hk, wrap_succ (show n < 4611686018427387904 by omega)]
  by_cases h : l[n].f0 < a
  ·simp only [eq_true h, if_true]
   refine ih (n + 1) (by omega) (fun x hx => ?_)
   rw [List.take_succ_eq_append_getElem hlt] at hx
   rcases List.mem_append.1 hx with hx | hx
   ·exact h1 x hx
   ·rw [List.mem_singleton.1 hx]; exact h
  ·simp only [eq_false h, if_false]
   refine putS_j2 l hi hl a b c d e n (by omega) h1 (fun x hx => ?_)
   have hid : Inc (l.drop n) := hi.sublist (List.drop_sublist _ _)
   rw [List.drop_eq_getElem_cons hlt] at hx hid
   rcases List.mem_cons.1 hx with rfl | hx
   ·exact h
   ·have := (List.pairwise_cons.1 hid).1 x hx
    omega
/-! the program's sort -/
theorem srtK_eq (l : List S48) (k : S48) (hi : Inc l) (hok : slices_SortFunc_impl_Key.okB ((l.filter fun x => !(decide (x.f0 = k.f0))) ++ [k]) = true) : slices_SortFunc_impl_Key.srt ((l.filter fun x => !(decide (x.f0 = k.f0))) ++ [k]) = putT l k := by
 have hm : ∀ x, x ∈ (l.filter fun x => !(decide (x.f0 = k.f0))) ++ [k] ↔ x ∈ putT l k := by
  intro x
  rw [putT_mem, List.mem_append, List.mem_singleton, List.mem_filter]
  simp only [Bool.not_eq_true', decide_eq_false_iff_not]
  exact ⟨fun h => h.elim (fun h => .inr h) .inl, fun h => h.elim .inr .inl⟩
 have hd : ((l.filter fun x => !(decide (x.f0 = k.f0))) ++ [k]).Pairwise fun a b => a.f0 ≠ b.f0 := by
  rw [List.pairwise_append]
  refine ⟨(hi.sublist List.filter_sublist).imp fun h => by omega, List.pairwise_singleton _ _, fun x hx y hy => ?_⟩
  rw [List.mem_singleton.1 hy]
  simpa using (List.mem_filter.1 hx).2
 generalize (l.filter fun x => !(decide (x.f0 = k.f0))) ++ [k] = G at hok hm hd ⊢
 have hv := slices_SortFunc_impl_Key.sub_val G hok
 unfold slices_SortFunc_impl_Key.srt
 obtain ⟨_, f2, f3⟩ := Go.Proofs.YtcpkobahiciadaaW.GSrt.srt_facts (fun (a b : {x : S48 // slices_SortFunc_impl_Key.okp x}) => slices_SortFunc_impl_Key.cf a.1 b.1) slices_SortFunc_impl_Key.swo (slices_SortFunc_impl_Key.sub G)
 generalize Go.Proofs.YtcpkobahiciadaaW.GSrt.srt (fun (a b : {x : S48 // slices_SortFunc_impl_Key.okp x}) => slices_SortFunc_impl_Key.cf a.1 b.1) (slices_SortFunc_impl_Key.sub G) = Z at f2 f3 ⊢
 have hp : (Z.map (·.1)).Perm G := by
  have := f2.map (·.1)
  rw [hv] at this
  exact this
 refine inc_same ?_ (putT_inc k hi) (fun x => (hp.mem_iff).trans (hm x))
 have w1 : (Z.map (·.1)).Pairwise fun a b => ¬ b.f0 < a.f0 := by
  rw [List.pairwise_map]
  refine f3.imp fun h => ?_
  rw [slices_SortFunc_impl_Key.lt] at h
  exact of_decide_eq_false h
 have w2 : (Z.map (·.1)).Pairwise fun a b => a.f0 ≠ b.f0 := (hp.pairwise_iff (fun {a b} h => fun e => h e.symm)).2 hd
 exact (w1.and w2).imp fun h => by omega
def kconv (x : S42) : S48 := ⟨x.f0, x.f1, x.f2, x.f3, x.f4⟩
theorem rdKey (l : List S48) (j : Nat) : rd_T48 l (j : Int) = l.getD j z48 := by simp [rd_T48]
theorem rdKeyL (l : List S42) (j : Nat) : rd_T42 l (j : Int) = l.getD j z42 := by simp [rd_T42]

theorem toKeyS_ev (l : List S42) (hl : l.length * 40 ≤ 140737488351232) : Ev (fun k => laws_toKeyS.f k l) (l.map kconv) := by
 unfold laws_toKeyS.f
 simp only [nat_nonneg, if_true, Int.toNat_natCast, show (l.length ≤ 7036874417766) = True from eq_true (by omega)]
 have key := Ev.upto (L := fun k j => laws_toKeyS.l0 k l ((l.map kconv).take j ++ List.replicate (l.length - j) z48) (j : Int)) (r := l.map kconv) (n := l.length)
  (by
   refine Ev.succ ?_
   simp only [laws_toKeyS.l0, Int.lt_irrefl, if_false]
   simp only [Nat.sub_self, List.replicate_zero, List.append_nil]
   rw [List.take_of_length_le (by simp)]
   exact Ev.now _)
  (by
   intro j hj h
   refine Ev.succ ?_
   have h1 : ((j : Int) < (l.length : Int)) = True := eq_true (by omega)
   have hlen : ((l.map kconv).take j ++ List.replicate (l.length - j) z48).length = l.length := by simp; omega
   simp only [laws_toKeyS.l0, laws_toKey.f, Option.bind_some, h1, if_true, nat_nonneg, hlen, Int.toNat_natCast, wrap_succ (show j < 4611686018427387904 by omega), rdKeyL]
   have e : ((l.map kconv).take j ++ List.replicate (l.length - j) z48).set j (kconv (l.getD j z42)) = (l.map kconv).take (j + 1) ++ List.replicate (l.length - (j + 1)) z48 := by
    have e1 : l.length - j = (l.length - (j + 1)) + 1 := by omega
    rw [e1, List.replicate_succ, List.set_append_right _ _ (by simp; omega)]
    have e2 : j - ((l.map kconv).take j).length = 0 := by simp; omega
    rw [e2, List.set_cons_zero, List.take_succ_eq_append_getElem (by simpa using hj)]
    simp [List.getD_eq_getElem?_getD, List.getElem?_eq_getElem hj]
   have e3 : (⟨(l.getD j z42).f0, (l.getD j z42).f1, (l.getD j z42).f2, (l.getD j z42).f3, (l.getD j z42).f4⟩ : S48) = kconv (l.getD j z42) := rfl
   rw [e3, e]
   exact h)
  0 (Nat.zero_le _)
 simpa using key

theorem eqKeyS_ev (l : List S48) (hl : l.length < 4611686018427387904) : Ev (fun k => laws_eqKeyS.f k l l) true := by
 unfold laws_eqKeyS.f
 simp only [if_true]
 exact Ev.upto (L := fun k j => laws_eqKeyS.l0 k l l (j : Int)) (r := true) (n := l.length)
  (by
   refine Ev.succ ?_
   simp only [laws_eqKeyS.l0, Int.lt_irrefl, if_false]
   exact Ev.now _)
  (by
   intro j hj h
   refine Ev.succ ?_
   have h1 : ((j : Int) < (l.length : Int)) = True := eq_true (by omega)
   simp only [laws_eqKeyS.l0, laws_eqKey.f, Option.bind_some, h1, if_true, nat_nonneg, wrap_succ (show j < 4611686018427387904 by omega)]
   exact h)
  0 (Nat.zero_le _)

theorem szKeyS_some (l : List S42) (a : Int) (hl : l.length * 40 ≤ 140737488351232) (h0 : 0 ≤ a) (ha : a ≤ 1048576) : ∃ r, laws_szKeyS.f l a = some r ∧ (0 ≤ r → r = a - l.length ∧ (l.length : Int) ≤ a) := by
 unfold laws_szKeyS.f
 rw [wrap_id (by omega) (by omega)]
 split
 ·exact ⟨_, rfl, fun h => absurd h (by decide)⟩
 ·exact ⟨_, rfl, fun h => ⟨rfl, by omega⟩⟩

def markKey (a : Int) : S48 := ⟨a, a + 1, a + 2, a + 3, a + 4⟩
def markKeys (a : Int) (n : Nat) : List S48 := (List.range n).map fun i : Nat => markKey (a + 5 * (i : Int))
theorem markKeys_length (a : Int) (n : Nat) : (markKeys a n).length = n := by simp [markKeys]
theorem markKeys_succ (a : Int) (n : Nat) : markKeys a (n + 1) = markKeys a n ++ [markKey (a + 5 * n)] := by simp [markKeys, List.range_succ]
theorem markKeys_get (a : Int) (n j : Nat) (h : j < n) : (markKeys a n).getD j z48 = markKey (a + 5 * j) := by
 simp [markKeys, List.getD_eq_getElem?_getD, h]

theorem markKeyS_ev (l : List S48) (a : Int) (h0 : 0 ≤ a) (ha : a + 5 * l.length < 4611686018427387904) : Ev (fun k => laws_markKeyS.f k l a) (a + 5 * l.length, markKeys a l.length) := by
 unfold laws_markKeyS.f
 have key := Ev.upto (L := fun k j => laws_markKeyS.l0 k (markKeys a j ++ l.drop j) (a + 5 * j) (j : Int)) (r := (a + 5 * l.length, markKeys a l.length)) (n := l.length)
  (by
   refine Ev.succ ?_
   have hlen : (markKeys a l.length ++ l.drop l.length).length = l.length := by simp [markKeys_length]
   simp only [laws_markKeyS.l0, hlen, Int.lt_irrefl, if_false]
   simp only [List.drop_length, List.append_nil]
   exact Ev.now _)
  (by
   intro j hj h
   refine Ev.succ ?_
   have hlen : (markKeys a j ++ l.drop j).length = l.length := by simp [markKeys_length]; omega
   have h1 : ((j : Int) < (l.length : Int)) = True := eq_true (by omega)
   have hs : ∀ v, rd_T48 ((markKeys a j ++ l.drop j).set j v) (j : Int) = v := by
    intro v
    rw [rdKey, List.getD_eq_getElem?_getD, List.getElem?_set_self (by omega)]
    rfl
   simp only [laws_markKeyS.l0, Option.bind_some, hlen, h1, if_true, nat_nonneg, Int.toNat_natCast, List.set_set, hs, wrap_succ (show j < 4611686018427387904 by omega)]
   rw [wrap_id (x := a + 5 * (j : Int) + 1) (by omega) (by omega), wrap_id (x := a + 5 * (j : Int) + 1 + 1) (by omega) (by omega), wrap_id (x := a + 5 * (j : Int) + 1 + 1 + 1) (by omega) (by omega), wrap_id (x := a + 5 * (j : Int) + 1 + 1 + 1 + 1) (by omega) (by omega), wrap_id (x := a + 5 * (j : Int) + 1 + 1 + 1 + 1 + 1) (by omega) (by omega)]
   have e : (markKeys a j ++ l.drop j).set j (markKey (a + 5 * j)) = markKeys a (j + 1) ++ l.drop (j + 1) := by
    rw [List.set_append_right _ _ (by simp [markKeys_length]), markKeys_length, Nat.sub_self, List.drop_eq_getElem_cons hj, List.set_cons_zero, markKeys_succ, List.append_assoc]
    rfl
   have e2 : (⟨a + 5 * (j : Int), a + 5 * (j : Int) + 1, a + 5 * (j : Int) + 1 + 1, a + 5 * (j : Int) + 1 + 1 + 1, a + 5 * (j : Int) + 1 + 1 + 1 + 1⟩ : S48) = markKey (a + 5 * j) := by
    simp only [markKey, S48.mk.injEq]
    refine ⟨trivial, trivial, ?_, ?_, ?_⟩ <;> omega
   rw [e2, e, show a + 5 * (j : Int) + 1 + 1 + 1 + 1 + 1 = a + 5 * ((j + 1 : Nat) : Int) by omega]
   exact h)
  0 (Nat.zero_le _)
 simpa [markKeys] using key

theorem heldKeyS_ev (n : Nat) (a : Int) (h0 : 0 ≤ a) (ha : a + 5 * n < 4611686018427387904) : Ev (fun k => laws_heldKeyS.f k (markKeys a n) a) (a + 5 * n) := by
 unfold laws_heldKeyS.f
 have key := Ev.upto (L := fun k j => laws_heldKeyS.l0 k (markKeys a n) (a + 5 * j) (j : Int)) (r := a + 5 * (n : Int)) (n := n)
  (by
   refine Ev.succ ?_
   simp only [laws_heldKeyS.l0, markKeys_length, Int.lt_irrefl, if_false]
   exact Ev.now _)
  (by
   intro j hj h
   refine Ev.succ ?_
   have h1 : ((j : Int) < (n : Int)) = True := eq_true (by omega)
   simp only [laws_heldKeyS.l0, markKeys_length, h1, if_true, nat_nonneg, rdKey, markKeys_get a n j hj, markKey, wrap_succ (show j < 4611686018427387904 by omega)]
   rw [wrap_id (x := a + 5 * (j : Int) + 1) (by omega) (by omega), wrap_id (x := a + 5 * (j : Int) + 1 + 1) (by omega) (by omega), wrap_id (x := a + 5 * (j : Int) + 1 + 1 + 1) (by omega) (by omega), wrap_id (x := a + 5 * (j : Int) + 1 + 1 + 1 + 1) (by omega) (by omega), wrap_id (x := a + 5 * (j : Int) + 1 + 1 + 1 + 1 + 1) (by omega) (by omega)]
   simp only [show (a + 5 * (j : Int) + 2 = a + 5 * (j : Int) + 1 + 1) = True from eq_true (by omega), show (a + 5 * (j : Int) + 3 = a + 5 * (j : Int) + 1 + 1 + 1) = True from eq_true (by omega), show (a + 5 * (j : Int) + 4 = a + 5 * (j : Int) + 1 + 1 + 1 + 1) = True from eq_true (by omega), if_true, show a + 5 * (j : Int) + 1 + 1 + 1 + 1 + 1 = a + 5 * ((j + 1 : Nat) : Int) by omega]
   exact h)
  0 (Nat.zero_le _)
 simpa using key
end Go.Proofs.Ytcpkobahiciadaa.Pure
namespace Go.Proofs.Ytcpkobahiciadaa.Pure
open Go.RowKit Go.Proofs.Ytcpkobahiciadaa.Q Go.Proofs.YtcpkobahiciadaaW.PrintWords Go.Proofs.YtcpkobahiciadaaW.PrintLast

theorem cloneK_eq (l : List S48) (hl : l.length < 3518437208883) : slices_Clone_impl_Key.f l = some l := by
 unfold slices_Clone_impl_Key.f
 simp only [Option.bind_some, List.length_nil, Nat.zero_add, List.nil_append]
 rw [if_pos hl]
def putR (l : List S48) (a b c d e : Int) : List S48 × Bool := if goodB l && keyB a b c d e then finK (putT l ⟨a, b, c, d, e⟩) else ([], false)
theorem putR_length (l : List S48) (a b c d e : Int) : (putR l a b c d e).1.length ≤ l.length + 1 := by
 unfold putR
 split
 ·rename_i h
  rw [Bool.and_eq_true] at h
  exact Nat.le_trans (finK_length _) (putT_length l _ (good_inc h.1).1)
 ·simp
theorem specPut_ev (l : List S48) (a b c d e : Int) (hl : l.length ≤ 3518437208780) : Ev (fun k => spec_PutKey.f k l a b c d e) (putR l a b c d e) := by
 unfold spec_PutKey.f putR
 have bad : Ev (fun k => spec_PutKey.j0 k l true a b c d e) (([], false) : List S48 × Bool) := by
  refine Ev.succ ?_
  simp only [spec_PutKey.j0, if_true]
  exact Ev.now _
 refine Ev.bind (avGood_ev l (by omega)) ?_
 rcases Bool.eq_false_or_eq_true (goodB l) with hg | hg
 ·simp only [hg, if_true, Bool.true_and, avOne_eq, Option.bind_some]
  rcases Bool.eq_false_or_eq_true (keyB a b c d e) with h2 | h2
  ·simp only [h2, Bool.not_true, if_true]
   obtain ⟨g1, g2, _⟩ := good_inc hg
   refine Ev.succ ?_
   simp only [spec_PutKey.j0, Bool.false_eq_true, if_false]
   exact putS_l0 l g1 g2 a b c d e l.length 0 (by omega) (by simp)
  ·simp only [h2, Bool.not_false, Bool.false_eq_true, if_false]
   exact bad
 ·simp only [hg, Bool.false_and, Bool.false_eq_true, if_false]
  exact bad
theorem implPut_ev (l : List S48) (a b c d e : Int) (hl : l.length ≤ 3518437208780) : Ev (fun k => impl_PutKey.f k l a b c d e) (putR l a b c d e) := by
 unfold impl_PutKey.f putR
 have bad : Ev (fun k => impl_PutKey.j0 k l true a b c d e) (([], false) : List S48 × Bool) := by
  refine Ev.succ ?_
  simp only [impl_PutKey.j0, if_true]
  exact Ev.now _
 refine Ev.bind (areKeys_ev l (by omega)) ?_
 rcases Bool.eq_false_or_eq_true (goodB l) with hg | hg
 ·simp only [hg, if_true, Bool.true_and, isKey_eq, Option.bind_some]
  rcases Bool.eq_false_or_eq_true (keyB a b c d e) with h2 | h2
  ·simp only [h2, Bool.not_true, if_true]
   obtain ⟨g1, g2, g3⟩ := good_inc hg
   have hF : (l.filter fun x => !(decide (x.f0 = a))).length ≤ 15 := Nat.le_trans (List.length_filter_le _ _) g2
   have hok : slices_SortFunc_impl_Key.okB ((l.filter fun x => !(decide (x.f0 = (⟨a, b, c, d, e⟩ : S48).f0))) ++ [⟨a, b, c, d, e⟩]) = true := by
    unfold slices_SortFunc_impl_Key.okB slices_SortFunc_impl_Key.okp
    rw [List.all_eq_true]
    intro x hx
    have hx2 : kOk x = true := by
     rcases List.mem_append.1 hx with hx | hx
     ·exact g3 x (List.mem_filter.1 hx).1
     ·rw [List.mem_singleton.1 hx]; exact h2
    have := (kOk_iff x).1 hx2
    exact decide_eq_true ⟨by omega, by omega⟩
   have hs := srtK_eq l ⟨a, b, c, d, e⟩ g1 hok
   have hf : slices_SortFunc_impl_Key.f ((l.filter fun x => !(decide (x.f0 = a))) ++ [⟨a, b, c, d, e⟩]) = some (putT l ⟨a, b, c, d, e⟩) := by
    unfold slices_SortFunc_impl_Key.f
    rw [if_pos (by rw [List.length_append, List.length_singleton]; omega)]
    have hok' : slices_SortFunc_impl_Key.okB ((l.filter fun x => !(decide (x.f0 = a))) ++ [⟨a, b, c, d, e⟩]) = true := hok
    rw [if_pos hok']
    exact congrArg some hs
   refine Ev.succ ?_
   simp only [impl_PutKey.j0, Bool.false_eq_true, if_false, cloneK_eq l (by omega), Option.bind_some, slices_DeleteFunc_impl_Key.f, List.length_singleton, show ((l.filter fun x => !(decide (x.f0 = a))).length + 1 < 3518437208883) = True from eq_true (by omega), if_true, hf]
   refine Ev.bind (areKeys_ev _ (by have := putT_length l ⟨a, b, c, d, e⟩ g1; omega)) ?_
   unfold finK
   split
   ·exact Ev.now _
   ·exact Ev.now _
  ·simp only [h2, Bool.not_false, Bool.false_eq_true, if_false]
   exact bad
 ·simp only [hg, Bool.false_and, Bool.false_eq_true, if_false]
  exact bad
theorem FnExactPutKey : laws_FnExactPutKey.Pure := by
 intro l a b c d e h _ _ _ _ _ _
 obtain ⟨r, hr, hb⟩ := szKeyS_some l 1048576 h (by decide) (by decide)
 refine Ev.rounds ?_
 unfold laws_FnExactPutKey.f
 simp only [hr, Option.bind_some]
 by_cases h0 : r < 0
 ·simp only [eq_true h0, if_true]
  exact Ev.now _
 simp only [eq_false h0, if_false]
 have hm : (l.map kconv).length ≤ 3518437208780 := by rw [List.length_map]; omega
 have hle := putR_length (l.map kconv) a b c d e
 have hi : (putR (l.map kconv) a b c d e).1.length < 4611686018427387904 := by omega
 refine Ev.bind (toKeyS_ev l h) ?_
 try simp only [laws_toKey.f, Option.bind_some]
 refine Ev.bind (specPut_ev _ a b c d e hm) ?_
 refine Ev.bind (toKeyS_ev l h) ?_
 try simp only [laws_toKey.f, Option.bind_some]
 refine Ev.bind (implPut_ev _ a b c d e hm) ?_
 refine Ev.bind (eqKeyS_ev _ hi) ?_
 simp only [bne_self_eq_false, if_true]
 refine Ev.succ ?_
 simp only [laws_FnExactPutKey.j0]
 refine Ev.bind (toKeyS_ev l h) ?_
 refine Ev.bind (eqKeyS_ev _ (by omega)) ?_
 simp only [if_true]
 refine Ev.bind (markKeyS_ev _ 1 (by decide) (by omega)) ?_
 simp only [show (1 + 5 * ((l.map kconv).length : Int) < 0) = False from eq_false (by omega), if_false]
 refine Ev.bind (eqKeyS_ev _ hi) ?_
 simp only [bne_self_eq_false, if_true]
 refine Ev.succ ?_
 simp only [laws_FnExactPutKey.j1]
 refine Ev.bind (markKeyS_ev _ 1 (by decide) (by omega)) ?_
 refine Ev.bind (heldKeyS_ev _ 1 (by decide) (by omega)) ?_
 simp only [show (1 + 5 * ((putR (l.map kconv) a b c d e).1.length : Int) < 0) = False from eq_false (by omega), if_false, if_true]
 refine Ev.bind (toKeyS_ev l h) ?_
 try simp only [laws_toKey.f, Option.bind_some]
 refine Ev.bind (implPut_ev _ a b c d e hm) ?_
 refine Ev.bind (eqKeyS_ev _ hi) ?_
 simp only [bne_self_eq_false, if_true]
 refine Ev.succ ?_
 simp only [laws_FnExactPutKey.j2]
 refine Ev.bind (heldKeyS_ev _ 1 (by decide) (by omega)) ?_
 simp only [show (1 + 5 * ((putR (l.map kconv) a b c d e).1.length : Int) < 0) = False from eq_false (by omega), if_false, if_true]
 exact Ev.now _
end Go.Proofs.Ytcpkobahiciadaa.Pure
