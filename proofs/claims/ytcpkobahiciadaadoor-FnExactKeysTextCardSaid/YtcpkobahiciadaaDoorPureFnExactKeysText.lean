/- For every list of keys, the program's KeysText returns what the reference's KeysText returns, and leaves the list alone. No condition. -/
import Derived.Test.YtcpkobahiciadaaDoorQBImplKeyAngles
import Derived.Test.YtcpkobahiciadaaDoorQBLawsSzKeyS
import Derived.Test.YtcpkobahiciadaaDoorQBSpecAvAngles
import Derived.Test.YtcpkobahiciadaaDoorQImplAreKeys
import Derived.Test.YtcpkobahiciadaaDoorQLawsFnExactKeysText
import Derived.Test.YtcpkobahiciadaaDoorQSpecAvGood
import Derived.Test.YtcpkobahiciadaaDoorQ0
import Derived.Lib.Join
import Derived.Test.YtcpkobahiciadaaDoorWWords
import Derived.Lib.ItoaNum
import Derived.Lib.Slices
set_option linter.unusedVariables false
set_option linter.unusedSimpArgs false
namespace Go.Proofs.YtcpkobahiciadaaDoor.Pure
open Go.RowKit Go.Proofs.YtcpkobahiciadaaDoor.Q Go.Proofs.YtcpkobahiciadaaDoorW.PrintLast Go.Proofs.YtcpkobahiciadaaDoorW.PrintWords
theorem Ev.succ {α : Type} {g : Nat → Option α} {r : α} (h : Ev (fun k => g (k + 1)) r) : Ev g r := Ev.step (fun _ => rfl) h
theorem Ev.k {α : Type} {g : Nat → Option α} {o : Option α} {r : α} (hg : ∀ k, g k = o) (h : o = some r) : Ev g r := ⟨0, fun k _ => (hg k).trans h⟩
theorem Ev.eq {α : Type} {g : Nat → Option α} {r r' : α} (h : Ev g r) (e : r = r') : Ev g r' := e ▸ h
/-- From round i up to round n. -/
theorem Ev.upto {β : Type} {L : Nat → Nat → Option β} {r : β} {n : Nat} (hend : Ev (fun k => L k n) r)
  (hstep : ∀ j, j < n → Ev (fun k => L k (j + 1)) r → Ev (fun k => L k j) r) : ∀ i, i ≤ n → Ev (fun k => L k i) r := by
 intro i hi
 obtain ⟨d, hd⟩ : ∃ d, n = i + d := ⟨n - i, by omega⟩
 induction d generalizing i with
 | zero => simp at hd; subst hd; exact hend
 | succ d ih => exact hstep i (by omega) (ih (i + 1) (by omega) (by omega))
/-- A loop that ends early where P fails. -/
theorem Ev.all {β : Type} {L : Nat → Nat → Option β} {P : Nat → Bool} {n : Nat} {a b : β} (hend : Ev (fun k => L k n) a)
  (hyes : ∀ j r, j < n → P j = true → Ev (fun k => L k (j + 1)) r → Ev (fun k => L k j) r) (hno : ∀ j, j < n → P j = false → Ev (fun k => L k j) b) :
  ∀ i, i ≤ n → Ev (fun k => L k i) (if (List.range' i (n - i)).all P then a else b) := by
 intro i hi
 obtain ⟨d, hd⟩ : ∃ d, n = i + d := ⟨n - i, by omega⟩
 induction d generalizing i with
 | zero => simp at hd; subst hd; simpa using hend
 | succ d ih =>
  have h1 : n - i = (n - (i + 1)) + 1 := by omega
  rw [h1, List.range'_succ]
  simp only [List.all_cons]
  rcases Bool.eq_false_or_eq_true (P i) with hP | hP
  ·simp only [hP, Bool.true_and]
   exact hyes i _ (by omega) hP (ih (i + 1) (by omega) (by omega))
  ·simpa [hP] using hno i (by omega) hP
theorem Ev.all0 {β : Type} {L : Nat → Nat → Option β} {P : Nat → Bool} {n : Nat} {a b : β} (hend : Ev (fun k => L k n) a)
  (hyes : ∀ j r, j < n → P j = true → Ev (fun k => L k (j + 1)) r → Ev (fun k => L k j) r) (hno : ∀ j, j < n → P j = false → Ev (fun k => L k j) b) :
  Ev (fun k => L k 0) (if (List.range n).all P then a else b) := by
 have := Ev.all hend hyes hno 0 (Nat.zero_le _)
 rwa [Nat.sub_zero, ← List.range_eq_range'] at this

theorem wrap_id {x : Int} (h0 : -9223372036854775808 ≤ x) (h1 : x ≤ 9223372036854775807) : wrap64 x = x := by
 unfold wrap64
 omega
theorem wrap_succ {n : Nat} (h : n < 4611686018427387904) : wrap64 ((n : Int) + 1) = ((n + 1 : Nat) : Int) := by
 rw [wrap_id (by omega) (by omega)]
 omega
theorem wrap_pred {n : Nat} (h0 : 0 < n) (h : n < 4611686018427387904) : wrap64 ((n : Int) - 1) = ((n - 1 : Nat) : Int) := by
 rw [wrap_id (by omega) (by omega)]
 omega
theorem nat_nonneg (n : Nat) : (0 ≤ (n : Int)) = True := eq_true (Int.natCast_nonneg n)
def dig (u : Nat) : ByteArray := ⟨(Go.Lib.decDigits u).toArray⟩
theorem dec_len (u : Nat) : (Go.Lib.decDigits u).length ≤ u + 1 := by
 induction u using Nat.strongRecOn with
 | _ u ih =>
  rw [Go.Lib.decDigits]
  split
  ·simp
  ·rename_i h
   have := ih (u / 10) (by omega)
   rw [List.length_append, List.length_singleton]
   omega
theorem dig_size (u : Nat) : (dig u).size ≤ u + 1 := by
 have := dec_len u
 unfold dig
 show (Go.Lib.decDigits u).toArray.size ≤ u + 1
 simpa using this
theorem one_dig {u : Nat} (h : u < 10) : strOfNums [(wrap64 (48 + (u : Int))) % 256] = ⟨#[UInt8.ofNat (48 + u)]⟩ := by
 have e : (wrap64 (48 + (u : Int))) % 256 = ((48 + u : Nat) : Int) := by
  rw [wrap_id (by omega) (by omega)]; omega
 rw [e]
 rfl
theorem l1Num_ev (u : Nat) (hu : u ≤ 1099511627776) : Ev (fun k => spec_l1Num.f k (u : Int)) (dig u) := by
 induction u using Nat.strongRecOn with
 | _ u ih =>
  refine Ev.succ ?_
  by_cases h : u < 10
  ·simp only [spec_l1Num.f, show ((u : Int) < 10) = True from eq_true (by omega), if_true]
   refine Ev.eq (Ev.now _) ?_
   rw [one_dig h]
   unfold dig
   rw [Go.Lib.decDigits, dif_pos h]
  ·have e1 : wrap64 (Int.tdiv (u : Int) 10) = ((u / 10 : Nat) : Int) := by
    rw [Int.tdiv_eq_ediv_of_nonneg (by omega), wrap_id (by omega) (by omega)]; omega
   have e2 : Int.tmod (u : Int) 10 = ((u % 10 : Nat) : Int) := by
    rw [Int.tmod_eq_emod_of_nonneg (by omega)]; omega
   have h3 : u % 10 < 10 := Nat.mod_lt _ (by decide)
   simp only [spec_l1Num.f, show ((u : Int) < 10) = False from eq_false (by omega), if_false, e1, e2]
   refine Ev.bind (ih (u / 10) (by omega) (by omega)) ?_
   have hs := dig_size (u / 10)
   simp only [Option.bind_some, one_dig h3]
   have h4 : ((dig (u / 10)).size + (⟨#[UInt8.ofNat (48 + u % 10)]⟩ : ByteArray).size ≤ 9223372036854775807) = True := eq_true (by
    show (dig (u / 10)).size + 1 ≤ _
    omega)
   simp only [h4, if_true]
   refine Ev.eq (Ev.now _) ?_
   unfold dig
   rw [Go.Lib.decDigits.eq_1 u, dif_neg h]
   apply ByteArray.ext
   simp
def inB (a b c : Int) : Bool := decide (b ≤ a ∧ a ≤ c)
theorem l1In_eq (a b c : Int) : spec_l1In.f a b c = some (inB a b c) := by
 unfold spec_l1In.f inB
 split <;> simp <;> omega
theorem within_eq (a b c : Int) : impl_within.f a b c = some (inB a b c) := by
 unfold impl_within.f inB
 split <;> simp <;> omega
def keyB (a b c d e : Int) : Bool := inB a 0 9999 && (inB b (-90) 180 && (inB c 0 150 && (inB d (-70) 70 && inB e 0 90)))
theorem isKey_eq (a b c d e : Int) : impl_IsKey.f a b c d e = some (keyB a b c d e) := by
 unfold impl_IsKey.f keyB
 simp only [within_eq, Option.bind_some]
 cases inB a 0 9999 <;> cases inB b (-90) 180 <;> cases inB c 0 150 <;> cases inB d (-70) 70 <;> simp
theorem avOne_eq (a b c d e : Int) : spec_avOne.f a b c d e = some (keyB a b c d e) := by
 unfold spec_avOne.f spec_avFrame.f keyB
 simp only [l1In_eq, Option.bind_some]
 cases inB a 0 9999 <;> cases inB b (-90) 180 <;> cases inB c 0 150 <;> cases inB d (-70) 70 <;> simp
theorem rdK (l : List S47) (j : Nat) : rd_T47 l (j : Int) = l.getD j z47 := by simp [rd_T47]
def kat (l : List S47) (j : Nat) : S47 := l.getD j z47
theorem rdk (l : List S47) (j : Nat) : rd_T47 l (j : Int) = kat l j := rdK l j
def kOk (x : S47) : Bool := keyB x.f0 x.f1 x.f2 x.f3 x.f4
def okAt (l : List S47) (i : Nat) : Bool := kOk (kat l i) && (decide (i = 0) || decide ((kat l (i - 1)).f0 < (kat l i).f0))
def goodB (l : List S47) : Bool := if (List.range l.length).all (okAt l) then decide (l.length ≤ 15) else false

theorem avGood_ev (l : List S47) (hl : l.length < 4611686018427387904) : Ev (fun k => spec_avGood.f k l) (goodB l) := by
 unfold spec_avGood.f goodB
 refine Ev.all0 (L := fun k j => spec_avGood.l0 k l l (l.length : Int) (j : Int)) (P := okAt l) (n := l.length) ?_ ?_ ?_
 ·refine Ev.succ ?_
  simp only [spec_avGood.l0, Int.lt_irrefl, if_false]
  refine Ev.eq (Ev.now _) ?_
  rw [decide_eq_decide]
  omega
 ·intro j r hj hP h
  refine Ev.succ ?_
  have h1 : ((j : Int) < (l.length : Int)) = True := eq_true (by omega)
  simp only [okAt, Bool.and_eq_true, Bool.or_eq_true, decide_eq_true_eq, kOk] at hP
  simp only [spec_avGood.l0, avOne_eq, Option.bind_some, h1, if_true, nat_nonneg, rdk, wrap_succ (show j < 4611686018427387904 by omega), hP.1]
  by_cases h0 : j = 0
  ·subst h0
   exact h
  ·have h2 : ((j : Int) > 0) = True := eq_true (by omega)
   have h3 : (((j - 1 : Nat) : Int) < (l.length : Int)) = True := eq_true (by omega)
   have h4 : ((kat l (j - 1)).f0 ≥ (kat l j).f0) = False := eq_false (by have := hP.2.resolve_left h0; omega)
   simp only [h2, if_true, wrap_pred (show 0 < j by omega) (show j < 4611686018427387904 by omega), nat_nonneg, h3, rdk, h4, if_false]
   exact h
 ·intro j hj hP
  refine Ev.succ ?_
  have h1 : ((j : Int) < (l.length : Int)) = True := eq_true (by omega)
  simp only [okAt, kOk] at hP
  simp only [spec_avGood.l0, avOne_eq, Option.bind_some, h1, if_true, nat_nonneg, rdk, wrap_succ (show j < 4611686018427387904 by omega)]
  rcases Bool.eq_false_or_eq_true (keyB (kat l j).f0 (kat l j).f1 (kat l j).f2 (kat l j).f3 (kat l j).f4) with hk | hk
  ·simp only [hk, if_true]
   simp only [hk, Bool.true_and, Bool.or_eq_false_iff, decide_eq_false_iff_not] at hP
   have h2 : ((j : Int) > 0) = True := eq_true (by omega)
   have h3 : (((j - 1 : Nat) : Int) < (l.length : Int)) = True := eq_true (by omega)
   have h4 : ((kat l (j - 1)).f0 ≥ (kat l j).f0) = True := eq_true (by omega)
   simp only [h2, if_true, wrap_pred (show 0 < j by omega) (show j < 4611686018427387904 by omega), nat_nonneg, h3, rdk, h4]
   exact Ev.now _
  ·simp only [hk]
   exact Ev.now _
theorem areKeys_ev (l : List S47) (hl : l.length < 4611686018427387904) : Ev (fun k => impl_AreKeys.f k l) (goodB l) := by
 unfold impl_AreKeys.f goodB
 refine Ev.all0 (L := fun k j => impl_AreKeys.l0 k l l (l.length : Int) (j : Int)) (P := okAt l) (n := l.length) ?_ ?_ ?_
 ·refine Ev.succ ?_
  simp only [impl_AreKeys.l0, Int.lt_irrefl, if_false]
  refine Ev.eq (Ev.now _) ?_
  rw [decide_eq_decide]
  omega
 ·intro j r hj hP h
  refine Ev.succ ?_
  have h1 : ((j : Int) < (l.length : Int)) = True := eq_true (by omega)
  simp only [okAt, Bool.and_eq_true, Bool.or_eq_true, decide_eq_true_eq, kOk] at hP
  simp only [impl_AreKeys.l0, isKey_eq, Option.bind_some, h1, if_true, nat_nonneg, rdk, wrap_succ (show j < 4611686018427387904 by omega), hP.1]
  by_cases h0 : j = 0
  ·subst h0
   exact h
  ·have h2 : ((j : Int) > 0) = True := eq_true (by omega)
   have h3 : (((j - 1 : Nat) : Int) < (l.length : Int)) = True := eq_true (by omega)
   have h4 : ((kat l j).f0 ≤ (kat l (j - 1)).f0) = False := eq_false (by have := hP.2.resolve_left h0; omega)
   simp only [h2, if_true, wrap_pred (show 0 < j by omega) (show j < 4611686018427387904 by omega), nat_nonneg, h3, rdk, h4, if_false]
   exact h
 ·intro j hj hP
  refine Ev.succ ?_
  have h1 : ((j : Int) < (l.length : Int)) = True := eq_true (by omega)
  simp only [okAt, kOk] at hP
  simp only [impl_AreKeys.l0, isKey_eq, Option.bind_some, h1, if_true, nat_nonneg, rdk, wrap_succ (show j < 4611686018427387904 by omega)]
  rcases Bool.eq_false_or_eq_true (keyB (kat l j).f0 (kat l j).f1 (kat l j).f2 (kat l j).f3 (kat l j).f4) with hk | hk
  ·simp only [hk, if_true]
   simp only [hk, Bool.true_and, Bool.or_eq_false_iff, decide_eq_false_iff_not] at hP
   have h2 : ((j : Int) > 0) = True := eq_true (by omega)
   have h3 : (((j - 1 : Nat) : Int) < (l.length : Int)) = True := eq_true (by omega)
   have h4 : ((kat l j).f0 ≤ (kat l (j - 1)).f0) = True := eq_true (by omega)
   simp only [h2, if_true, wrap_pred (show 0 < j by omega) (show j < 4611686018427387904 by omega), nat_nonneg, h3, rdk, h4]
   exact Ev.now _
  ·simp only [hk]
   exact Ev.now _

/-- What good keys are. -/
structure Good (l : List S47) : Prop where
 len : l.length ≤ 15
 key : ∀ i, i < l.length → (0 ≤ (kat l i).f0 ∧ (kat l i).f0 ≤ 9999) ∧ (-90 ≤ (kat l i).f1 ∧ (kat l i).f1 ≤ 180) ∧ (0 ≤ (kat l i).f2 ∧ (kat l i).f2 ≤ 150) ∧ (-70 ≤ (kat l i).f3 ∧ (kat l i).f3 ≤ 70) ∧ (0 ≤ (kat l i).f4 ∧ (kat l i).f4 ≤ 90)
 inc : ∀ i, i + 1 < l.length → (kat l i).f0 < (kat l (i + 1)).f0
theorem kOk_iff (x : S47) : kOk x = true ↔ (0 ≤ x.f0 ∧ x.f0 ≤ 9999) ∧ (-90 ≤ x.f1 ∧ x.f1 ≤ 180) ∧ (0 ≤ x.f2 ∧ x.f2 ≤ 150) ∧ (-70 ≤ x.f3 ∧ x.f3 ≤ 70) ∧ (0 ≤ x.f4 ∧ x.f4 ≤ 90) := by
 simp [kOk, keyB, inB]
theorem goodB_iff (l : List S47) : goodB l = true ↔ Good l := by
 unfold goodB
 constructor
 ·intro h
  split at h
  ·rename_i ha
   have ha' : ∀ i, i < l.length → okAt l i = true := fun i hi => List.all_eq_true.1 ha i (List.mem_range.2 hi)
   refine ⟨of_decide_eq_true h, fun i hi => ?_, fun i hi => ?_⟩
   ·have := ha' i hi
    simp only [okAt, Bool.and_eq_true] at this
    exact (kOk_iff _).1 this.1
   ·have := ha' (i + 1) hi
    simp only [okAt, Bool.and_eq_true, Bool.or_eq_true, decide_eq_true_eq] at this
    have h2 := this.2.resolve_left (by omega)
    simpa using h2
  ·cases h
 ·intro h
  rw [if_pos ?_]
  ·exact decide_eq_true h.len
  ·refine List.all_eq_true.2 fun i hi => ?_
   have hi := List.mem_range.1 hi
   simp only [okAt, Bool.and_eq_true, Bool.or_eq_true, decide_eq_true_eq]
   refine ⟨(kOk_iff _).2 (h.key i hi), ?_⟩
   by_cases h0 : i = 0
   ·exact .inl h0
   ·refine .inr ?_
    have := h.inc (i - 1) (by omega)
    rwa [show i - 1 + 1 = i by omega] at this
def kconv (x : S51) : S47 := ⟨x.f0, x.f1, x.f2, x.f3, x.f4⟩
theorem rdKeyL (l : List S51) (j : Nat) : rd_T51 l (j : Int) = l.getD j z51 := by simp [rd_T51]

theorem toKeyS_ev (l : List S51) (hl : l.length * 40 ≤ 140737488351232) : Ev (fun k => laws_toKeyS.f k l) (l.map kconv) := by
 unfold laws_toKeyS.f
 simp only [nat_nonneg, if_true, Int.toNat_natCast, show (l.length ≤ 7036874417766) = True from eq_true (by omega)]
 have key := Ev.upto (L := fun k j => laws_toKeyS.l0 k l ((l.map kconv).take j ++ List.replicate (l.length - j) z47) (j : Int)) (r := l.map kconv) (n := l.length)
  (by
   refine Ev.succ ?_
   simp only [laws_toKeyS.l0, Int.lt_irrefl, if_false]
   simp only [Nat.sub_self, List.replicate_zero, List.append_nil]
   rw [List.take_of_length_le (by simp)]
   exact Ev.now _)
  (by
   intro j hj h
   refine Ev.succ ?_
   have h1 : ((j : Int) < (l.length : Int)) = True := eq_true (by omega)
   have hlen : ((l.map kconv).take j ++ List.replicate (l.length - j) z47).length = l.length := by simp; omega
   simp only [laws_toKeyS.l0, laws_toKey.f, Option.bind_some, h1, if_true, nat_nonneg, hlen, Int.toNat_natCast, wrap_succ (show j < 4611686018427387904 by omega), rdKeyL]
   have e : ((l.map kconv).take j ++ List.replicate (l.length - j) z47).set j (kconv (l.getD j z51)) = (l.map kconv).take (j + 1) ++ List.replicate (l.length - (j + 1)) z47 := by
    have e1 : l.length - j = (l.length - (j + 1)) + 1 := by omega
    rw [e1, List.replicate_succ, List.set_append_right _ _ (by simp; omega)]
    have e2 : j - ((l.map kconv).take j).length = 0 := by simp; omega
    rw [e2, List.set_cons_zero, List.take_succ_eq_append_getElem (by simpa using hj)]
    simp [List.getD_eq_getElem?_getD, List.getElem?_eq_getElem hj]
   have e3 : (⟨(l.getD j z51).f0, (l.getD j z51).f1, (l.getD j z51).f2, (l.getD j z51).f3, (l.getD j z51).f4⟩ : S47) = kconv (l.getD j z51) := rfl
   rw [e3, e]
   exact h)
  0 (Nat.zero_le _)
 simpa using key

theorem eqKeyS_ev (l : List S47) (hl : l.length < 4611686018427387904) : Ev (fun k => laws_eqKeyS.f k l l) true := by
 unfold laws_eqKeyS.f
 simp only [if_true]
 exact Ev.upto (L := fun k j => laws_eqKeyS.l0 k l l (j : Int)) (r := true) (n := l.length)
  (by
   refine Ev.succ ?_
   simp only [laws_eqKeyS.l0, Int.lt_irrefl, if_false]
   exact Ev.now _)
  (by
   intro j hj h
   refine Ev.succ ?_
   have h1 : ((j : Int) < (l.length : Int)) = True := eq_true (by omega)
   simp only [laws_eqKeyS.l0, laws_eqKey.f, Option.bind_some, h1, if_true, nat_nonneg, wrap_succ (show j < 4611686018427387904 by omega)]
   exact h)
  0 (Nat.zero_le _)

theorem szKeyS_some (l : List S51) (a : Int) (hl : l.length * 40 ≤ 140737488351232) (h0 : 0 ≤ a) (ha : a ≤ 1048576) : ∃ r, laws_szKeyS.f l a = some r ∧ (0 ≤ r → r = a - l.length ∧ (l.length : Int) ≤ a) := by
 unfold laws_szKeyS.f
 rw [wrap_id (by omega) (by omega)]
 split
 ·exact ⟨_, rfl, fun h => absurd h (by decide)⟩
 ·exact ⟨_, rfl, fun h => ⟨rfl, by omega⟩⟩
end Go.Proofs.YtcpkobahiciadaaDoor.Pure
namespace Go.Proofs.YtcpkobahiciadaaDoor.Pure
open Go.RowKit Go.Proofs.YtcpkobahiciadaaDoor.Q Go.Proofs.YtcpkobahiciadaaDoorW.PrintWords Go.Proofs.YtcpkobahiciadaaDoorW.PrintLast

theorem ba_ext {a b : ByteArray} (h : a.data.toList = b.data.toList) : a = b := by
 cases a; cases b
 congr 1
 exact Array.toList_inj.1 h
def digI (n : Int) : ByteArray := if n < 0 then (⟨#[45]⟩ : ByteArray) ++ dig n.natAbs else dig n.toNat
theorem digI_size {n : Int} (h1 : -200 ≤ n) (h2 : n ≤ 10000) : (digI n).size ≤ 20000 := by
 have l1 : (⟨#[45]⟩ : ByteArray).size = 1 := rfl
 have hs1 := dig_size n.natAbs
 have hs2 := dig_size n.toNat
 unfold digI
 split
 ·rw [ByteArray.size_append, l1]; omega
 ·omega
theorem l1Int_ev {n : Int} (h1 : -200 ≤ n) (h2 : n ≤ 10000) : Ev (fun k => spec_l1Int.f k n) (digI n) := by
 unfold spec_l1Int.f digI
 by_cases h : n < 0
 ·simp only [eq_true h, if_true]
  have e : wrap64 (-n) = ((n.natAbs : Nat) : Int) := by rw [wrap_id (by omega) (by omega)]; omega
  rw [e]
  refine Ev.bind (l1Num_ev n.natAbs (by omega)) ?_
  have hs1 := dig_size n.natAbs
  simp only [show (1 + (dig n.natAbs).size ≤ 9223372036854775807) = True from eq_true (by omega), if_true]
  exact Ev.now _
 ·simp only [eq_false h, if_false]
  have e : n = ((n.toNat : Nat) : Int) := by omega
  have k := l1Num_ev n.toNat (by omega)
  rw [← e] at k
  refine Ev.bind k ?_
  exact Ev.now _
theorem itoa_int {n : Int} (h1 : -200 ≤ n) (h2 : n ≤ 10000) : strconv_Itoa.f n = some (digI n) := by
 unfold strconv_Itoa.f digI dig Go.Lib.itoa
 rw [if_pos ⟨by omega, by omega⟩]
 by_cases h : n < 0
 ·rw [if_pos h, if_pos h]
  refine congrArg some (ba_ext ?_)
  simp
 ·rw [if_neg h, if_neg h]
def com : ByteArray := ⟨#[44]⟩
theorem com_eq : (⟨#[44]⟩ : ByteArray) = com := rfl
theorem com_size : com.size = 1 := rfl
def angT (a b c d : Int) : ByteArray := digI a ++ (com ++ (digI b ++ (com ++ (digI c ++ (com ++ digI d)))))
def keyT (x : S47) : ByteArray := ((digI x.f0 ++ (⟨#[58]⟩ : ByteArray)) ++ angT x.f1 x.f2 x.f3 x.f4) ++ (⟨#[59]⟩ : ByteArray)
def keysT : List S47 → ByteArray → ByteArray
 | [], t => t
 | x :: l, t => keysT l (t ++ keyT x)
theorem join_angT (a b c d : Int) : strings_Join.f [digI a, digI b, digI c, digI d] com = (if (angT a b c d).size ≤ 140737488355328 then some (angT a b c d) else none) := by
 have e : Go.Lib.join ([digI a, digI b, digI c, digI d].map (·.data.toList)) com.data.toList = (angT a b c d).data.toList := by
  simp only [List.map_cons, List.map_nil]
  rw [Go.Lib.join_cons]
  unfold Go.Lib.joinTail angT
  simp
 unfold strings_Join.f
 rw [e, if_pos (by simp)]
 have e2 : (angT a b c d).data.toList.length = (angT a b c d).size := by rw [Array.length_toList]; rfl
 rw [e2]
theorem angT_size {a b c d : Int} (ha : -200 ≤ a ∧ a ≤ 10000) (hb : -200 ≤ b ∧ b ≤ 10000) (hc : -200 ≤ c ∧ c ≤ 10000) (hd : -200 ≤ d ∧ d ≤ 10000) : (angT a b c d).size ≤ 80003 := by
 have h1 := digI_size ha.1 ha.2
 have h2 := digI_size hb.1 hb.2
 have h3 := digI_size hc.1 hc.2
 have h4 := digI_size hd.1 hd.2
 unfold angT
 simp only [ByteArray.size_append, com_size]
 omega
structure KB (x : S47) : Prop where
 b0 : 0 ≤ x.f0 ∧ x.f0 ≤ 10000
 b1 : -200 ≤ x.f1 ∧ x.f1 ≤ 10000
 b2 : -200 ≤ x.f2 ∧ x.f2 ≤ 10000
 b3 : -200 ≤ x.f3 ∧ x.f3 ≤ 10000
 b4 : -200 ≤ x.f4 ∧ x.f4 ≤ 10000
theorem kb_good {l : List S47} (hg : goodB l = true) : l.length ≤ 15 ∧ ∀ x, x ∈ l → KB x := by
 have g := (goodB_iff l).1 hg
 refine ⟨g.len, fun x hx => ?_⟩
 obtain ⟨i, hi, rfl⟩ := List.mem_iff_getElem.1 hx
 have hk : kat l i = l[i] := by unfold kat; rw [List.getD_eq_getElem?_getD, List.getElem?_eq_getElem hi]; rfl
 obtain ⟨h0, h1, h2, h3, h4⟩ := g.key i hi
 rw [hk] at h0 h1 h2 h3 h4
 exact ⟨⟨by omega, by omega⟩, ⟨by omega, by omega⟩, ⟨by omega, by omega⟩, ⟨by omega, by omega⟩, ⟨by omega, by omega⟩⟩
theorem keyT_size {x : S47} (h : KB x) : (keyT x).size ≤ 200000 := by
 have l1 : (⟨#[58]⟩ : ByteArray).size = 1 := rfl
 have l2 : (⟨#[59]⟩ : ByteArray).size = 1 := rfl
 have h0 := digI_size (n := x.f0) (by have := h.b0; omega) h.b0.2
 have h1 := angT_size h.b1 h.b2 h.b3 h.b4
 unfold keyT
 simp only [ByteArray.size_append, l1, l2]
 omega
theorem rdFour (a b c d : Int) : rd [a, b, c, d] 0 = a ∧ rd [a, b, c, d] 1 = b ∧ rd [a, b, c, d] 2 = c ∧ rd [a, b, c, d] 3 = d := ⟨rfl, rfl, rfl, rfl⟩
theorem fourN (a b c d : Int) : (([a, b, c, d] : List Int).length : Int) = 4 := rfl
theorem w01 : wrap64 (0 + 1) = 1 := wrap_id (by omega) (by omega)
theorem w12 : wrap64 (1 + 1) = 2 := wrap_id (by omega) (by omega)
theorem w23 : wrap64 (2 + 1) = 3 := wrap_id (by omega) (by omega)
theorem w34 : wrap64 (3 + 1) = 4 := wrap_id (by omega) (by omega)
/-! the reference -/
theorem specK_step {l : List S47} {x13 x14 : Int} {A : List Int} {r : ByteArray × Bool} {t : ByteArray} (i j : Int) (v : Int) (hi0 : 0 < i) (hi : i < 4) (hj : wrap64 (i + 1) = j) (hA : (A.length : Int) = 4) (hr : rd A i = v) (hv : -200 ≤ v ∧ v ≤ 10000) (ht : t.size ≤ 1099511627776) (h : Ev (fun k => spec_KeysText.l1 k ((t ++ com) ++ digI v) l x13 x14 A 4 j) r) : Ev (fun k => spec_KeysText.l1 k t l x13 x14 A 4 i) r := by
 have hs := digI_size hv.1 hv.2
 refine Ev.succ ?_
 simp only [spec_KeysText.l1, show (i < 4) = True from eq_true hi, show (0 ≤ i) = True from eq_true (by omega), hA, show (i > 0) = True from eq_true hi0, if_true, show (t.size + 1 ≤ 9223372036854775807) = True from eq_true (by omega), hr, hj, com_eq]
 refine Ev.bind (l1Int_ev hv.1 hv.2) ?_
 simp only [show ((t ++ com).size + (digI v).size ≤ 9223372036854775807) = True from eq_true (by rw [ByteArray.size_append, com_size]; omega), if_true]
 exact h
theorem specK_l1 {l : List S47} {x13 x14 : Int} {r : ByteArray × Bool} {t : ByteArray} {a b c d : Int} (ha : -200 ≤ a ∧ a ≤ 10000) (hb : -200 ≤ b ∧ b ≤ 10000) (hc : -200 ≤ c ∧ c ≤ 10000) (hd : -200 ≤ d ∧ d ≤ 10000) (ht : t.size ≤ 1000000000) (h : Ev (fun k => spec_KeysText.l0 k ((t ++ angT a b c d) ++ (⟨#[59]⟩ : ByteArray)) l x13 (wrap64 (x14 + 1))) r) : Ev (fun k => spec_KeysText.l1 k t l x13 x14 [a, b, c, d] 4 0) r := by
 have h1 := digI_size ha.1 ha.2
 have h2 := digI_size hb.1 hb.2
 have h3 := digI_size hc.1 hc.2
 have h4 := digI_size hd.1 hd.2
 obtain ⟨r0, r1, r2, r3⟩ := rdFour a b c d
 have hn := fourN a b c d
 refine Ev.succ ?_
 simp only [spec_KeysText.l1, show ((0 : Int) < 4) = True from eq_true (by omega), show ((0 : Int) ≤ 0) = True from eq_true (by omega), hn, show ((0 : Int) > 0) = False from eq_false (by omega), if_true, if_false, r0, w01]
 refine Ev.bind (l1Int_ev ha.1 ha.2) ?_
 simp only [show (t.size + (digI a).size ≤ 9223372036854775807) = True from eq_true (by omega), if_true]
 refine specK_step 1 2 b (by omega) (by omega) w12 hn r1 hb (by simp only [ByteArray.size_append]; omega) ?_
 refine specK_step 2 3 c (by omega) (by omega) w23 hn r2 hc (by simp only [ByteArray.size_append, com_size]; omega) ?_
 refine specK_step 3 4 d (by omega) (by omega) w34 hn r3 hd (by simp only [ByteArray.size_append, com_size]; omega) ?_
 have e : (((((((t ++ digI a) ++ com) ++ digI b) ++ com) ++ digI c) ++ com) ++ digI d) = t ++ angT a b c d := by
  unfold angT
  simp only [ByteArray.append_assoc]
 rw [e]
 have hz := angT_size ha hb hc hd
 refine Ev.succ ?_
 simp only [spec_KeysText.l1, show ((4 : Int) < 4) = False from eq_false (by omega), if_false, show ((t ++ angT a b c d).size + 1 ≤ 9223372036854775807) = True from eq_true (by rw [ByteArray.size_append]; omega), if_true]
 exact h
theorem specKT_l0 (l : List S47) (hl : l.length ≤ 15) (hg : ∀ x, x ∈ l → KB x) : ∀ d j (t : ByteArray), j + d = l.length → t.size ≤ j * 200000 → Ev (fun k => spec_KeysText.l0 k t l (l.length : Int) (j : Int)) (keysT (l.drop j) t, true) := by
 intro d
 induction d with
 | zero =>
  intro j t hj ht
  refine Ev.succ ?_
  simp only [spec_KeysText.l0, show ((j : Int) < (l.length : Int)) = False from eq_false (by omega), if_false]
  rw [List.drop_of_length_le (by omega)]
  exact Ev.now _
 | succ d ih =>
  intro j t hj ht
  have hlt : j < l.length := by omega
  have hk : kat l j = l[j] := by unfold kat; rw [List.getD_eq_getElem?_getD, List.getElem?_eq_getElem hlt]; rfl
  have e1 : l.drop j = kat l j :: l.drop (j + 1) := by rw [hk]; exact List.drop_eq_getElem_cons hlt
  have hx : KB (kat l j) := by rw [hk]; exact hg _ (List.getElem_mem hlt)
  have hT := keyT_size hx
  have key := ih (j + 1) (t ++ keyT (kat l j)) (by omega) (by rw [ByteArray.size_append]; omega)
  rw [e1]
  unfold keysT
  obtain ⟨x, hxe⟩ : ∃ x, kat l j = x := ⟨_, rfl⟩
  rw [hxe] at hx key hT ⊢
  have e2 : x.f0 = ((x.f0.toNat : Nat) : Int) := by have := hx.b0; omega
  have e3 : digI x.f0 = dig x.f0.toNat := by unfold digI; rw [if_neg (by have := hx.b0; omega)]
  have hs := digI_size (n := x.f0) (by have := hx.b0; omega) hx.b0.2
  have l1 : (⟨#[58]⟩ : ByteArray).size = 1 := rfl
  refine Ev.succ ?_
  simp only [spec_KeysText.l0, show ((j : Int) < (l.length : Int)) = True from eq_true (by omega), if_true, nat_nonneg, rdk, hxe]
  have kn : Ev (fun k => spec_l1Num.f k x.f0) (digI x.f0) := by
   have k := l1Num_ev x.f0.toNat (by have := hx.b0; omega)
   rw [← e2, ← e3] at k
   exact k
  refine Ev.bind kn ?_
  simp only [show ((digI x.f0).size + 1 ≤ 9223372036854775807) = True from eq_true (by omega), show (t.size + (digI x.f0 ++ (⟨#[58]⟩ : ByteArray)).size ≤ 9223372036854775807) = True from eq_true (by rw [ByteArray.size_append, l1]; omega), if_true, spec_avAngles.f, Option.bind_some, fourN]
  refine specK_l1 hx.b1 hx.b2 hx.b3 hx.b4 (by simp only [ByteArray.size_append, l1]; omega) ?_
  rw [wrap_succ (show j < 4611686018427387904 by omega)]
  have e4 : ((t ++ (digI x.f0 ++ (⟨#[58]⟩ : ByteArray))) ++ angT x.f1 x.f2 x.f3 x.f4) ++ (⟨#[59]⟩ : ByteArray) = t ++ keyT x := by
   unfold keyT
   simp only [ByteArray.append_assoc]
  rw [e4]
  exact key
/-! the program -/
theorem implK_step {l : List S47} {t : ByteArray} {W : List ByteArray} {x13 x14 : Int} {A : List Int} {y0 y1 y2 y3 y4 : Int} {r : ByteArray × Bool} (i j : Int) (v : Int) (hi0 : 0 ≤ i) (hi : i < 4) (hj : wrap64 (i + 1) = j) (hA : (A.length : Int) = 4) (hr : rd A i = v) (hv : -200 ≤ v ∧ v ≤ 10000) (hW : W.length < 4) (h : Ev (fun k => impl_KeysText.l1 k t (W ++ [digI v]) l x13 x14 A 4 j y0 y1 y2 y3 y4) r) : Ev (fun k => impl_KeysText.l1 k t W l x13 x14 A 4 i y0 y1 y2 y3 y4) r := by
 refine Ev.succ ?_
 simp only [impl_KeysText.l1, show (i < 4) = True from eq_true hi, show (0 ≤ i) = True from eq_true hi0, hA, if_true, hr, hj, itoa_int hv.1 hv.2, Option.bind_some, show (W.length < 8796093022208) = True from eq_true (by omega)]
 exact h
theorem implK_l1 {l : List S47} {x13 x14 : Int} {r : ByteArray × Bool} {t : ByteArray} {x : S47} (hx : KB x) (ht : t.size ≤ 1000000000) (h : Ev (fun k => impl_KeysText.l0 k (t ++ keyT x) l x13 (wrap64 (x14 + 1))) r) : Ev (fun k => impl_KeysText.l1 k t ([] : List ByteArray) l x13 x14 [x.f1, x.f2, x.f3, x.f4] 4 0 x.f0 x.f1 x.f2 x.f3 x.f4) r := by
 obtain ⟨r0, r1, r2, r3⟩ := rdFour x.f1 x.f2 x.f3 x.f4
 have hn := fourN x.f1 x.f2 x.f3 x.f4
 refine implK_step 0 1 x.f1 (by omega) (by omega) w01 hn r0 hx.b1 (by simp) ?_
 refine implK_step 1 2 x.f2 (by omega) (by omega) w12 hn r1 hx.b2 (by simp) ?_
 refine implK_step 2 3 x.f3 (by omega) (by omega) w23 hn r2 hx.b3 (by simp) ?_
 refine implK_step 3 4 x.f4 (by omega) (by omega) w34 hn r3 hx.b4 (by simp) ?_
 have e : ((([] ++ [digI x.f1]) ++ [digI x.f2]) ++ [digI x.f3]) ++ [digI x.f4] = [digI x.f1, digI x.f2, digI x.f3, digI x.f4] := rfl
 rw [e]
 have hz := angT_size hx.b1 hx.b2 hx.b3 hx.b4
 have hs := digI_size (n := x.f0) (by have := hx.b0; omega) hx.b0.2
 have l1 : (⟨#[58]⟩ : ByteArray).size = 1 := rfl
 have l2 : (⟨#[59]⟩ : ByteArray).size = 1 := rfl
 refine Ev.succ ?_
 simp only [impl_KeysText.l1, show ((4 : Int) < 4) = False from eq_false (by omega), if_false, itoa_int (n := x.f0) (by have := hx.b0; omega) hx.b0.2, Option.bind_some, show ((digI x.f0).size + 1 ≤ 9223372036854775807) = True from eq_true (by omega), if_true, com_eq, join_angT, show ((angT x.f1 x.f2 x.f3 x.f4).size ≤ 140737488355328) = True from eq_true (by omega)]
 simp only [show ((digI x.f0 ++ (⟨#[58]⟩ : ByteArray)).size + (angT x.f1 x.f2 x.f3 x.f4).size ≤ 9223372036854775807) = True from eq_true (by simp only [ByteArray.size_append, l1]; omega), show (((digI x.f0 ++ (⟨#[58]⟩ : ByteArray)) ++ angT x.f1 x.f2 x.f3 x.f4).size + 1 ≤ 9223372036854775807) = True from eq_true (by simp only [ByteArray.size_append, l1]; omega), show (t.size + (((digI x.f0 ++ (⟨#[58]⟩ : ByteArray)) ++ angT x.f1 x.f2 x.f3 x.f4) ++ (⟨#[59]⟩ : ByteArray)).size ≤ 9223372036854775807) = True from eq_true (by simp only [ByteArray.size_append, l1, l2]; omega), if_true]
 exact h
theorem implKT_l0 (l : List S47) (hl : l.length ≤ 15) (hg : ∀ x, x ∈ l → KB x) : ∀ d j (t : ByteArray), j + d = l.length → t.size ≤ j * 200000 → Ev (fun k => impl_KeysText.l0 k t l (l.length : Int) (j : Int)) (keysT (l.drop j) t, true) := by
 intro d
 induction d with
 | zero =>
  intro j t hj ht
  refine Ev.succ ?_
  simp only [impl_KeysText.l0, show ((j : Int) < (l.length : Int)) = False from eq_false (by omega), if_false]
  rw [List.drop_of_length_le (by omega)]
  exact Ev.now _
 | succ d ih =>
  intro j t hj ht
  have hlt : j < l.length := by omega
  have hk : kat l j = l[j] := by unfold kat; rw [List.getD_eq_getElem?_getD, List.getElem?_eq_getElem hlt]; rfl
  have e1 : l.drop j = kat l j :: l.drop (j + 1) := by rw [hk]; exact List.drop_eq_getElem_cons hlt
  have hx : KB (kat l j) := by rw [hk]; exact hg _ (List.getElem_mem hlt)
  have hT := keyT_size hx
  have key := ih (j + 1) (t ++ keyT (kat l j)) (by omega) (by rw [ByteArray.size_append]; omega)
  rw [e1]
  unfold keysT
  obtain ⟨x, hxe⟩ : ∃ x, kat l j = x := ⟨_, rfl⟩
  rw [hxe] at hx key hT ⊢
  refine Ev.succ ?_
  simp only [impl_KeysText.l0, show ((j : Int) < (l.length : Int)) = True from eq_true (by omega), if_true, nat_nonneg, rdk, hxe, impl_Key_angles.f, Option.bind_some, fourN]
  refine implK_l1 hx (by omega) ?_
  rw [wrap_succ (show j < 4611686018427387904 by omega)]
  exact key
def ktR (l : List S47) : ByteArray × Bool := if goodB l then (keysT l (⟨#[]⟩ : ByteArray), true) else ((⟨#[]⟩ : ByteArray), false)
theorem specKT_ev (l : List S47) (hl : l.length ≤ 1048576) : Ev (fun k => spec_KeysText.f k l) (ktR l) := by
 unfold spec_KeysText.f ktR
 refine Ev.bind (avGood_ev l (by omega)) ?_
 rcases Bool.eq_false_or_eq_true (goodB l) with hg | hg
 ·simp only [hg, if_true]
  obtain ⟨g2, g3⟩ := kb_good hg
  exact specKT_l0 l g2 g3 l.length 0 _ (by omega) (by simp [ByteArray.size])
 ·simp only [hg, Bool.false_eq_true, if_false]
  exact Ev.now _
theorem implKT_ev (l : List S47) (hl : l.length ≤ 1048576) : Ev (fun k => impl_KeysText.f k l) (ktR l) := by
 unfold impl_KeysText.f ktR
 refine Ev.bind (areKeys_ev l (by omega)) ?_
 rcases Bool.eq_false_or_eq_true (goodB l) with hg | hg
 ·simp only [hg, if_true]
  obtain ⟨g2, g3⟩ := kb_good hg
  exact implKT_l0 l g2 g3 l.length 0 _ (by omega) (by simp [ByteArray.size])
 ·simp only [hg, Bool.false_eq_true, if_false]
  exact Ev.now _
theorem FnExactKeysText : laws_FnExactKeysText.Pure := by
 intro l h _
 obtain ⟨r, hr, hb⟩ := szKeyS_some l 1048576 h (by decide) (by decide)
 refine Ev.rounds ?_
 unfold laws_FnExactKeysText.f
 simp only [hr, Option.bind_some]
 by_cases h0 : r < 0
 ·simp only [eq_true h0, if_true]
  exact Ev.now _
 simp only [eq_false h0, if_false]
 obtain ⟨_, hb'⟩ := hb (by omega)
 have hk : (l.map kconv).length ≤ 1048576 := by rw [List.length_map]; omega
 refine Ev.bind (toKeyS_ev l h) ?_
 refine Ev.bind (specKT_ev _ hk) ?_
 refine Ev.bind (toKeyS_ev l h) ?_
 refine Ev.bind (implKT_ev _ hk) ?_
 simp only [bne_self_eq_false, if_true]
 refine Ev.succ ?_
 simp only [laws_FnExactKeysText.j0, Bool.false_eq_true, if_false]
 refine Ev.bind (toKeyS_ev l h) ?_
 refine Ev.bind (eqKeyS_ev _ (by omega)) ?_
 simp only [if_true]
 exact Ev.now _
end Go.Proofs.YtcpkobahiciadaaDoor.Pure
