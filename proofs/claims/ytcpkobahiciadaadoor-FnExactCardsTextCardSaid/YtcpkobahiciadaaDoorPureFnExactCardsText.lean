/- For every list of cards, the program's CardsText returns what the reference's CardsText returns, and leaves the list alone. No condition. -/
import Derived.Test.YtcpkobahiciadaaDoorQBLawsSzCard
import Derived.Test.YtcpkobahiciadaaDoorQBSpecL1Num
import Derived.Test.YtcpkobahiciadaaDoorQBStrconvItoa
import Derived.Test.YtcpkobahiciadaaDoorQBounds
import Derived.Test.YtcpkobahiciadaaDoorQImplAreCards
import Derived.Test.YtcpkobahiciadaaDoorQLawsFnExactCardsText
import Derived.Test.YtcpkobahiciadaaDoorQSpecRpGood
import Derived.Test.YtcpkobahiciadaaDoorQ0
import Derived.Test.YtcpkobahiciadaaDoorWWords
import Derived.Lib.ItoaNum
import Derived.Lib.Bytealg
import Derived.Test.YtcpkobahiciadaaDoorGStr
import Derived.Sort.Walk0
set_option linter.unusedVariables false
set_option linter.unusedSimpArgs false
namespace Go.Proofs.YtcpkobahiciadaaDoor.Pure
open Go.RowKit Go.Proofs.YtcpkobahiciadaaDoor.Q Go.Proofs.YtcpkobahiciadaaDoorW.PrintLast Go.Proofs.YtcpkobahiciadaaDoorW.PrintWords
theorem Ev.succ {α : Type} {g : Nat → Option α} {r : α} (h : Ev (fun k => g (k + 1)) r) : Ev g r := Ev.step (fun _ => rfl) h
theorem Ev.k {α : Type} {g : Nat → Option α} {o : Option α} {r : α} (hg : ∀ k, g k = o) (h : o = some r) : Ev g r := ⟨0, fun k _ => (hg k).trans h⟩
theorem Ev.eq {α : Type} {g : Nat → Option α} {r r' : α} (h : Ev g r) (e : r = r') : Ev g r' := e ▸ h
/-- From round i up to round n. -/
theorem Ev.upto {β : Type} {L : Nat → Nat → Option β} {r : β} {n : Nat} (hend : Ev (fun k => L k n) r)
  (hstep : ∀ j, j < n → Ev (fun k => L k (j + 1)) r → Ev (fun k => L k j) r) : ∀ i, i ≤ n → Ev (fun k => L k i) r := by
 intro i hi
 obtain ⟨d, hd⟩ : ∃ d, n = i + d := ⟨n - i, by omega⟩
 induction d generalizing i with
 | zero => simp at hd; subst hd; exact hend
 | succ d ih => exact hstep i (by omega) (ih (i + 1) (by omega) (by omega))
/-- A loop that ends early where P fails. -/
theorem Ev.all {β : Type} {L : Nat → Nat → Option β} {P : Nat → Bool} {n : Nat} {a b : β} (hend : Ev (fun k => L k n) a)
  (hyes : ∀ j r, j < n → P j = true → Ev (fun k => L k (j + 1)) r → Ev (fun k => L k j) r) (hno : ∀ j, j < n → P j = false → Ev (fun k => L k j) b) :
  ∀ i, i ≤ n → Ev (fun k => L k i) (if (List.range' i (n - i)).all P then a else b) := by
 intro i hi
 obtain ⟨d, hd⟩ : ∃ d, n = i + d := ⟨n - i, by omega⟩
 induction d generalizing i with
 | zero => simp at hd; subst hd; simpa using hend
 | succ d ih =>
  have h1 : n - i = (n - (i + 1)) + 1 := by omega
  rw [h1, List.range'_succ]
  simp only [List.all_cons]
  rcases Bool.eq_false_or_eq_true (P i) with hP | hP
  ·simp only [hP, Bool.true_and]
   exact hyes i _ (by omega) hP (ih (i + 1) (by omega) (by omega))
  ·simpa [hP] using hno i (by omega) hP
theorem Ev.all0 {β : Type} {L : Nat → Nat → Option β} {P : Nat → Bool} {n : Nat} {a b : β} (hend : Ev (fun k => L k n) a)
  (hyes : ∀ j r, j < n → P j = true → Ev (fun k => L k (j + 1)) r → Ev (fun k => L k j) r) (hno : ∀ j, j < n → P j = false → Ev (fun k => L k j) b) :
  Ev (fun k => L k 0) (if (List.range n).all P then a else b) := by
 have := Ev.all hend hyes hno 0 (Nat.zero_le _)
 rwa [Nat.sub_zero, ← List.range_eq_range'] at this

theorem wrap_id {x : Int} (h0 : -9223372036854775808 ≤ x) (h1 : x ≤ 9223372036854775807) : wrap64 x = x := by
 unfold wrap64
 omega
theorem wrap_succ {n : Nat} (h : n < 4611686018427387904) : wrap64 ((n : Int) + 1) = ((n + 1 : Nat) : Int) := by
 rw [wrap_id (by omega) (by omega)]
 omega
theorem wrap_pred {n : Nat} (h0 : 0 < n) (h : n < 4611686018427387904) : wrap64 ((n : Int) - 1) = ((n - 1 : Nat) : Int) := by
 rw [wrap_id (by omega) (by omega)]
 omega
theorem nat_nonneg (n : Nat) : (0 ≤ (n : Int)) = True := eq_true (Int.natCast_nonneg n)
theorem getD_map {α β : Type} (f : α → β) (l : List α) (i : Nat) (d : α) (e : β) (h : i < l.length) : (l.map f).getD i e = f (l.getD i d) := by
 simp [List.getD_eq_getElem?_getD, List.getElem?_eq_getElem h]

/-- A copy, element by element, into a row that was made. -/
theorem Ev.copy {α β : Type} (f : α → β) (l : List α) (za : α) (zb : β) (L : Nat → List β → Int → Option (List β))
  (hstep : ∀ (j : Nat) (s r : List β), j < l.length → s.length = l.length → Ev (fun k => L k (s.set j (f (l.getD j za))) ((j + 1 : Nat) : Int)) r → Ev (fun k => L k s (j : Int)) r)
  (hend : ∀ s : List β, s.length = l.length → Ev (fun k => L k s (l.length : Int)) s) : Ev (fun k => L k (List.replicate l.length zb) 0) (l.map f) := by
 have key := Ev.upto (L := fun k j => L k ((l.map f).take j ++ List.replicate (l.length - j) zb) (j : Int)) (r := l.map f) (n := l.length)
  (by
   have h := hend ((l.map f).take l.length ++ List.replicate (l.length - l.length) zb) (by simp)
   refine Ev.eq h ?_
   rw [Nat.sub_self, List.replicate_zero, List.append_nil, List.take_of_length_le (by simp)])
  (by
   intro j hj h
   have hlen : ((l.map f).take j ++ List.replicate (l.length - j) zb).length = l.length := by simp; omega
   refine hstep j _ _ hj hlen ?_
   have e : ((l.map f).take j ++ List.replicate (l.length - j) zb).set j (f (l.getD j za)) = (l.map f).take (j + 1) ++ List.replicate (l.length - (j + 1)) zb := by
    have e1 : l.length - j = (l.length - (j + 1)) + 1 := by omega
    rw [e1, List.replicate_succ, List.set_append_right _ _ (by simp; omega)]
    have e2 : j - ((l.map f).take j).length = 0 := by simp; omega
    rw [e2, List.set_cons_zero, List.take_succ_eq_append_getElem (by simpa using hj)]
    simp [List.getD_eq_getElem?_getD, List.getElem?_eq_getElem hj]
   rw [e]
   exact h)
  0 (Nat.zero_le _)
 simpa using key
/-- What is left of a size, or that it was passed. -/
theorem Ev.sz {L : Nat → Nat → Int → Option Int} {n : Nat}
  (hstep : ∀ (j : Nat) (a : Int), j < n → 0 ≤ a → a ≤ 1048576 → (∃ a', 0 ≤ a' ∧ a' ≤ a ∧ ∀ r, Ev (fun k => L k (j + 1) a') r → Ev (fun k => L k j a) r) ∨ Ev (fun k => L k j a) (-1))
  (hend : ∀ a : Int, 0 ≤ a → a ≤ 1048576 → Ev (fun k => L k n a) a) :
  ∀ (j : Nat), j ≤ n → ∀ a : Int, 0 ≤ a → a ≤ 1048576 → ∃ r, r ≤ a ∧ Ev (fun k => L k j a) r := by
 intro j hj
 obtain ⟨d, hd⟩ : ∃ d, n = j + d := ⟨n - j, by omega⟩
 induction d generalizing j with
 | zero => simp at hd; subst hd; exact fun a h0 h1 => ⟨a, Int.le_refl _, hend a h0 h1⟩
 | succ d ih =>
  intro a h0 h1
  rcases hstep j a (by omega) h0 h1 with ⟨a', h2, h3, h4⟩ | h5
  ·obtain ⟨r, h6, h7⟩ := ih (j + 1) (by omega) (by omega) a' h2 (by omega)
   exact ⟨r, by omega, h4 r h7⟩
  ·exact ⟨-1, by omega, h5⟩
def dig (u : Nat) : ByteArray := ⟨(Go.Lib.decDigits u).toArray⟩
theorem dec_len (u : Nat) : (Go.Lib.decDigits u).length ≤ u + 1 := by
 induction u using Nat.strongRecOn with
 | _ u ih =>
  rw [Go.Lib.decDigits]
  split
  ·simp
  ·rename_i h
   have := ih (u / 10) (by omega)
   rw [List.length_append, List.length_singleton]
   omega
theorem dig_size (u : Nat) : (dig u).size ≤ u + 1 := by
 have := dec_len u
 unfold dig
 show (Go.Lib.decDigits u).toArray.size ≤ u + 1
 simpa using this
theorem one_dig {u : Nat} (h : u < 10) : strOfNums [(wrap64 (48 + (u : Int))) % 256] = ⟨#[UInt8.ofNat (48 + u)]⟩ := by
 have e : (wrap64 (48 + (u : Int))) % 256 = ((48 + u : Nat) : Int) := by
  rw [wrap_id (by omega) (by omega)]; omega
 rw [e]
 rfl
theorem l1Num_ev (u : Nat) (hu : u ≤ 1099511627776) : Ev (fun k => spec_l1Num.f k (u : Int)) (dig u) := by
 induction u using Nat.strongRecOn with
 | _ u ih =>
  refine Ev.succ ?_
  by_cases h : u < 10
  ·simp only [spec_l1Num.f, show ((u : Int) < 10) = True from eq_true (by omega), if_true]
   refine Ev.eq (Ev.now _) ?_
   rw [one_dig h]
   unfold dig
   rw [Go.Lib.decDigits, dif_pos h]
  ·have e1 : wrap64 (Int.tdiv (u : Int) 10) = ((u / 10 : Nat) : Int) := by
    rw [Int.tdiv_eq_ediv_of_nonneg (by omega), wrap_id (by omega) (by omega)]; omega
   have e2 : Int.tmod (u : Int) 10 = ((u % 10 : Nat) : Int) := by
    rw [Int.tmod_eq_emod_of_nonneg (by omega)]; omega
   have h3 : u % 10 < 10 := Nat.mod_lt _ (by decide)
   simp only [spec_l1Num.f, show ((u : Int) < 10) = False from eq_false (by omega), if_false, e1, e2]
   refine Ev.bind (ih (u / 10) (by omega) (by omega)) ?_
   have hs := dig_size (u / 10)
   simp only [Option.bind_some, one_dig h3]
   have h4 : ((dig (u / 10)).size + (⟨#[UInt8.ofNat (48 + u % 10)]⟩ : ByteArray).size ≤ 9223372036854775807) = True := eq_true (by
    show (dig (u / 10)).size + 1 ≤ _
    omega)
   simp only [h4, if_true]
   refine Ev.eq (Ev.now _) ?_
   unfold dig
   rw [Go.Lib.decDigits.eq_1 u, dif_neg h]
   apply ByteArray.ext
   simp
theorem itoa_nat (u : Nat) (hu : u ≤ 1099511627776) : strconv_Itoa.f (u : Int) = some (dig u) := by
 unfold strconv_Itoa.f dig Go.Lib.itoa
 rw [if_pos ⟨by omega, by omega⟩, if_neg (by omega), Int.toNat_natCast]
def inB (a b c : Int) : Bool := decide (b ≤ a ∧ a ≤ c)
theorem l1In_eq (a b c : Int) : spec_l1In.f a b c = some (inB a b c) := by
 unfold spec_l1In.f inB
 split <;> simp <;> omega
theorem within_eq (a b c : Int) : impl_within.f a b c = some (inB a b c) := by
 unfold impl_within.f inB
 split <;> simp <;> omega
def capAt (s : ByteArray) (j : Nat) : Bool := decide (65 ≤ bt s j ∧ bt s j ≤ 90)
def glossB (s : ByteArray) : Bool := inB s.size 1 8 && (List.range s.size).all (capAt s)
def caps : ByteArray := ⟨#[65, 66, 67, 68, 69, 70, 71, 72, 73, 74, 75, 76, 77, 78, 79, 80, 81, 82, 83, 84, 85, 86, 87, 88, 89, 90]⟩
theorem caps_all : ((List.range 256).all fun n => decide (Lib.indexByte caps.data.toList n.toUInt8 < 0) == !(decide (65 ≤ n ∧ n ≤ 90))) = true := by decide +kernel
theorem caps_index (b : Int) (h0 : 0 ≤ b) (h1 : b ≤ 255) : (Lib.indexByte caps.data.toList b.toNat.toUInt8 < 0) ↔ ¬ (65 ≤ b ∧ b ≤ 90) := by
 have h := List.all_eq_true.1 caps_all b.toNat (List.mem_range.2 (by omega))
 simp only [beq_iff_eq] at h
 by_cases hc : 65 ≤ b ∧ b ≤ 90
 ·have h2 : decide (65 ≤ b.toNat ∧ b.toNat ≤ 90) = true := decide_eq_true (by omega)
  rw [h2] at h
  exact ⟨fun h3 => absurd h3 (of_decide_eq_false h), fun h3 => absurd hc h3⟩
 ·have h2 : decide (65 ≤ b.toNat ∧ b.toNat ≤ 90) = false := decide_eq_false (by omega)
  rw [h2] at h
  exact ⟨fun _ => hc, fun _ => of_decide_eq_true h⟩
theorem hasOnly_ev (s : ByteArray) (hs : s.size < 4611686018427387904) : Ev (fun k => impl_hasOnly.f k s caps) ((List.range s.size).all (capAt s)) := by
 unfold impl_hasOnly.f
 refine Ev.eq (Ev.all0 (L := fun k j => impl_hasOnly.l0 k s caps (s.size : Int) (j : Int)) (P := capAt s) (n := s.size) (a := true) (b := false) ?_ ?_ ?_) (by split <;> simp_all)
 ·refine Ev.succ ?_
  simp only [impl_hasOnly.l0, Int.lt_irrefl, if_false]
  exact Ev.now _
 ·intro j r hj hP h
  refine Ev.succ ?_
  have h1 : ((j : Int) < (s.size : Int)) = True := eq_true (by omega)
  have hb := bt_range s (j : Int)
  have h2 : (Lib.indexByte caps.data.toList (bt s (j : Int)).toNat.toUInt8 < 0) = False := eq_false (fun hc => (caps_index _ hb.1 hb.2).1 hc (of_decide_eq_true hP))
  simp only [impl_hasOnly.l0, strings_IndexByte.f, Option.bind_some, h1, if_true, nat_nonneg, h2, if_false, wrap_succ (show j < 4611686018427387904 by omega)]
  exact h
 ·intro j hj hP
  refine Ev.succ ?_
  have h1 : ((j : Int) < (s.size : Int)) = True := eq_true (by omega)
  have hb := bt_range s (j : Int)
  have h2 : (Lib.indexByte caps.data.toList (bt s (j : Int)).toNat.toUInt8 < 0) = True := eq_true ((caps_index _ hb.1 hb.2).2 (of_decide_eq_false hP))
  simp only [impl_hasOnly.l0, strings_IndexByte.f, Option.bind_some, h1, if_true, nat_nonneg, h2]
  exact Ev.now _
theorem isGloss_ev (s : ByteArray) (hs : s.size < 4611686018427387904) : Ev (fun k => impl_IsGloss.f k s) (glossB s) := by
 unfold impl_IsGloss.f impl_isWordOf.f glossB
 refine Ev.bind (a := inB s.size 1 8 && (List.range s.size).all (capAt s)) ?_ (Ev.now _)
 simp only [within_eq, Option.bind_some]
 rcases Bool.eq_false_or_eq_true (inB s.size 1 8) with h | h
 ·simp only [h, if_true, Bool.true_and]
  exact Ev.bind (hasOnly_ev s hs) (Ev.now _)
 ·simp only [h]
  exact Ev.now _
theorem fsWord_ev (s : ByteArray) (hs : s.size < 4611686018427387904) : Ev (fun k => spec_fsWord.f k s) (glossB s) := by
 unfold spec_fsWord.f
 refine Ev.eq (Ev.all0 (L := fun k j => spec_fsWord.l0 k s (j : Int)) (P := capAt s) (n := s.size) (a := inB s.size 1 8) (b := false) ?_ ?_ ?_) (by unfold glossB; split <;> simp_all)
 ·refine Ev.succ ?_
  simp only [spec_fsWord.l0, Int.lt_irrefl, if_false, l1In_eq, Option.bind_some]
  exact Ev.now _
 ·intro j r hj hP h
  refine Ev.succ ?_
  have h1 : ((j : Int) < (s.size : Int)) = True := eq_true (by omega)
  have hP' := of_decide_eq_true hP
  simp only [spec_fsWord.l0, h1, if_true, nat_nonneg, show (bt s (j : Int) < 65) = False from eq_false (by omega), show (bt s (j : Int) > 90) = False from eq_false (by omega), if_false, wrap_succ (show j < 4611686018427387904 by omega)]
  exact h
 ·intro j hj hP
  refine Ev.succ ?_
  have h1 : ((j : Int) < (s.size : Int)) = True := eq_true (by omega)
  have hP' := of_decide_eq_false hP
  simp only [spec_fsWord.l0, h1, if_true, nat_nonneg]
  by_cases h2 : bt s (j : Int) < 65
  ·simp only [eq_true h2, if_true]
   exact Ev.now _
  ·simp only [eq_false h2, if_false, show (bt s (j : Int) > 90) = True from eq_true (by omega), if_true]
   exact Ev.now _
def cardB (g : ByteArray) (b d : Int) : Bool := glossB g && (inB b 0 5 && inB d 0 99999)
theorem isFrame_eq (d : Int) : impl_isFrame.f d = some (inB d 0 99999) := by
 unfold impl_isFrame.f
 simp only [within_eq, Option.bind_some]
theorem rpDay_eq (d : Int) : spec_rpDay.f d = some (inB d 0 99999) := by
 unfold spec_rpDay.f
 simp only [l1In_eq, Option.bind_some]
theorem isCard_ev (g : ByteArray) (b d : Int) (hs : g.size < 4611686018427387904) : Ev (fun k => impl_isCard.f k g b d) (cardB g b d) := by
 unfold impl_isCard.f cardB
 refine Ev.bind (isGloss_ev g hs) ?_
 simp only [within_eq, isFrame_eq, Option.bind_some]
 rcases Bool.eq_false_or_eq_true (glossB g) with h | h <;> rcases Bool.eq_false_or_eq_true (inB b 0 5) with h2 | h2 <;> simp only [h, h2] <;> exact Ev.now _
theorem rpOne_ev (g : ByteArray) (b d : Int) (hs : g.size < 4611686018427387904) : Ev (fun k => spec_rpOne.f k g b d) (cardB g b d) := by
 unfold spec_rpOne.f cardB
 refine Ev.bind (fsWord_ev g hs) ?_
 simp only [l1In_eq, rpDay_eq, Option.bind_some]
 rcases Bool.eq_false_or_eq_true (glossB g) with h | h <;> rcases Bool.eq_false_or_eq_true (inB b 0 5) with h2 | h2 <;> simp only [h, h2] <;> exact Ev.now _
def cat (l : List S41) (j : Nat) : S41 := l.getD j z41
theorem rdc (l : List S41) (j : Nat) : rd_T41 l (j : Int) = cat l j := by simp [rd_T41, cat]
theorem rdcL (l : List S39) (j : Nat) : rd_T39 l (j : Int) = l.getD j z39 := by simp [rd_T39]
def cOk (x : S41) : Bool := cardB x.f0 x.f1 x.f2
def cAt (l : List S41) (i : Nat) : Bool := cOk (cat l i) && (decide (i = 0) || Op.bytesLess (cat l (i - 1)).f0.toList (cat l i).f0.toList)
def cgoodB (l : List S41) : Bool := if (List.range l.length).all (cAt l) then decide (l.length ≤ 20) else false
/-- Every text of the cards is short enough. -/
def CSz (l : List S41) : Prop := ∀ i, i < l.length → (cat l i).f0.size ≤ 140737488351232

theorem rpGood_ev (l : List S41) (hl : l.length < 4611686018427387904) (hz : CSz l) : Ev (fun k => spec_rpGood.f k l) (cgoodB l) := by
 unfold spec_rpGood.f cgoodB
 refine Ev.all0 (L := fun k j => spec_rpGood.l0 k l l (l.length : Int) (j : Int)) (P := cAt l) (n := l.length) ?_ ?_ ?_
 ·refine Ev.succ ?_
  simp only [spec_rpGood.l0, Int.lt_irrefl, if_false]
  refine Ev.eq (Ev.now _) ?_
  rw [decide_eq_decide]
  omega
 ·intro j r hj hP h
  refine Ev.succ ?_
  have h1 : ((j : Int) < (l.length : Int)) = True := eq_true (by omega)
  have hsz := hz j hj
  simp only [cAt, Bool.and_eq_true, Bool.or_eq_true, decide_eq_true_eq, cOk] at hP
  simp only [spec_rpGood.l0, h1, if_true, nat_nonneg, rdc, wrap_succ (show j < 4611686018427387904 by omega)]
  refine Ev.bind (Ev.eq (rpOne_ev (cat l j).f0 (cat l j).f1 (cat l j).f2 (by omega)) hP.1) ?_
  by_cases h0 : j = 0
  ·subst h0
   exact h
  ·have h2 : ((j : Int) > 0) = True := eq_true (by omega)
   have h3 : (((j - 1 : Nat) : Int) < (l.length : Int)) = True := eq_true (by omega)
   have h4 := hP.2.resolve_left h0
   simp only [h2, if_true, wrap_pred (show 0 < j by omega) (show j < 4611686018427387904 by omega), nat_nonneg, h3, rdc, h4]
   exact h
 ·intro j hj hP
  refine Ev.succ ?_
  have h1 : ((j : Int) < (l.length : Int)) = True := eq_true (by omega)
  have hsz := hz j hj
  simp only [cAt, cOk] at hP
  simp only [spec_rpGood.l0, h1, if_true, nat_nonneg, rdc, wrap_succ (show j < 4611686018427387904 by omega)]
  refine Ev.bind (rpOne_ev (cat l j).f0 (cat l j).f1 (cat l j).f2 (by omega)) ?_
  rcases Bool.eq_false_or_eq_true (cardB (cat l j).f0 (cat l j).f1 (cat l j).f2) with hk | hk
  ·simp only [hk, if_true]
   simp only [hk, Bool.true_and, Bool.or_eq_false_iff, decide_eq_false_iff_not] at hP
   have h2 : ((j : Int) > 0) = True := eq_true (by omega)
   have h3 : (((j - 1 : Nat) : Int) < (l.length : Int)) = True := eq_true (by omega)
   simp only [h2, if_true, wrap_pred (show 0 < j by omega) (show j < 4611686018427387904 by omega), nat_nonneg, h3, rdc, hP.2]
   exact Ev.now _
  ·simp only [hk]
   exact Ev.now _
theorem areCards_ev (l : List S41) (hl : l.length < 4611686018427387904) (hz : CSz l) : Ev (fun k => impl_AreCards.f k l) (cgoodB l) := by
 unfold impl_AreCards.f cgoodB
 refine Ev.all0 (L := fun k j => impl_AreCards.l0 k l l (l.length : Int) (j : Int)) (P := cAt l) (n := l.length) ?_ ?_ ?_
 ·refine Ev.succ ?_
  simp only [impl_AreCards.l0, Int.lt_irrefl, if_false]
  refine Ev.eq (Ev.now _) ?_
  rw [decide_eq_decide]
  omega
 ·intro j r hj hP h
  refine Ev.succ ?_
  have h1 : ((j : Int) < (l.length : Int)) = True := eq_true (by omega)
  have hsz := hz j hj
  simp only [cAt, Bool.and_eq_true, Bool.or_eq_true, decide_eq_true_eq, cOk] at hP
  simp only [impl_AreCards.l0, h1, if_true, nat_nonneg, rdc, wrap_succ (show j < 4611686018427387904 by omega)]
  refine Ev.bind (Ev.eq (isCard_ev (cat l j).f0 (cat l j).f1 (cat l j).f2 (by omega)) hP.1) ?_
  by_cases h0 : j = 0
  ·subst h0
   exact h
  ·have h2 : ((j : Int) > 0) = True := eq_true (by omega)
   have h3 : (((j - 1 : Nat) : Int) < (l.length : Int)) = True := eq_true (by omega)
   have h4 := hP.2.resolve_left h0
   simp only [h2, if_true, wrap_pred (show 0 < j by omega) (show j < 4611686018427387904 by omega), nat_nonneg, h3, rdc, h4]
   exact h
 ·intro j hj hP
  refine Ev.succ ?_
  have h1 : ((j : Int) < (l.length : Int)) = True := eq_true (by omega)
  have hsz := hz j hj
  simp only [cAt, cOk] at hP
  simp only [impl_AreCards.l0, h1, if_true, nat_nonneg, rdc, wrap_succ (show j < 4611686018427387904 by omega)]
  refine Ev.bind (isCard_ev (cat l j).f0 (cat l j).f1 (cat l j).f2 (by omega)) ?_
  rcases Bool.eq_false_or_eq_true (cardB (cat l j).f0 (cat l j).f1 (cat l j).f2) with hk | hk
  ·simp only [hk, if_true]
   simp only [hk, Bool.true_and, Bool.or_eq_false_iff, decide_eq_false_iff_not] at hP
   have h2 : ((j : Int) > 0) = True := eq_true (by omega)
   have h3 : (((j - 1 : Nat) : Int) < (l.length : Int)) = True := eq_true (by omega)
   simp only [h2, if_true, wrap_pred (show 0 < j by omega) (show j < 4611686018427387904 by omega), nat_nonneg, h3, rdc, hP.2]
   exact Ev.now _
  ·simp only [hk]
   exact Ev.now _

def cconv (x : S39) : S41 := ⟨x.f0, x.f1, x.f2⟩
theorem toCardS_ev (l : List S39) (hl : l.length * 32 ≤ 140737488351232) : Ev (fun k => laws_toCardS.f k l) (l.map cconv) := by
 unfold laws_toCardS.f
 simp only [nat_nonneg, if_true, Int.toNat_natCast, show (l.length ≤ 8796093022208) = True from eq_true (by omega)]
 refine Ev.copy cconv l z39 z41 (fun k s j => laws_toCardS.l0 k l s j) ?_ ?_
 ·intro j s r hj hs h
  refine Ev.succ ?_
  have h1 : ((j : Int) < (l.length : Int)) = True := eq_true (by omega)
  simp only [laws_toCardS.l0, laws_toCard.f, Option.bind_some, h1, if_true, nat_nonneg, hs, Int.toNat_natCast, wrap_succ (show j < 4611686018427387904 by omega), rdcL]
  exact h
 ·intro s hs
  refine Ev.succ ?_
  simp only [laws_toCardS.l0, Int.lt_irrefl, if_false]
  exact Ev.now _
theorem eqCardS_ev (l : List S41) (hl : l.length < 4611686018427387904) : Ev (fun k => laws_eqCardS.f k l l) true := by
 unfold laws_eqCardS.f
 simp only [if_true]
 exact Ev.upto (L := fun k j => laws_eqCardS.l0 k l l (j : Int)) (r := true) (n := l.length)
  (by
   refine Ev.succ ?_
   simp only [laws_eqCardS.l0, Int.lt_irrefl, if_false]
   exact Ev.now _)
  (by
   intro j hj h
   refine Ev.succ ?_
   have h1 : ((j : Int) < (l.length : Int)) = True := eq_true (by omega)
   simp only [laws_eqCardS.l0, laws_eqCard.f, Option.bind_some, h1, if_true, nat_nonneg, wrap_succ (show j < 4611686018427387904 by omega)]
   exact h)
  0 (Nat.zero_le _)
theorem szCardS_ev (l : List S39) (hl : l.length * 32 ≤ 140737488351232) (hz : ∀ y, y ∈ l → B39 y) : ∃ r, (0 ≤ r → l.length ≤ 1048576) ∧ Ev (fun k => laws_szCardS.f k l 1048576) r := by
 unfold laws_szCardS.f
 rw [wrap_id (x := 1048576 - (l.length : Int)) (by omega) (by omega)]
 by_cases h0 : (1048576 : Int) - l.length < 0
 ·refine ⟨-1, fun h => absurd h (by decide), ?_⟩
  simp only [eq_true h0, if_true]
  exact Ev.now _
 ·obtain ⟨r, _, hr⟩ := Ev.sz (L := fun k j a => laws_szCardS.l0 k l a (j : Int)) (n := l.length)
   (by
    intro j a hj ha0 ha1
    have h1 : ((j : Int) < (l.length : Int)) = True := eq_true (by omega)
    have hy := hz (l.getD j z39) (by rw [List.getD_eq_getElem?_getD, List.getElem?_eq_getElem hj]; exact List.getElem_mem hj)
    have hs : (l.getD j z39).f0.size ≤ 140737488351232 := hy.1
    by_cases hc : a - ((l.getD j z39).f0.size : Int) < 0
    ·refine .inr (Ev.succ ?_)
     simp only [laws_szCardS.l0, laws_szCard.f, h1, if_true, nat_nonneg, rdcL, wrap_id (x := a - ((l.getD j z39).f0.size : Int)) (by omega) (by omega), eq_true hc, Option.bind_some]
     exact Ev.now _
    ·refine .inl ⟨a - ((l.getD j z39).f0.size : Int), by omega, by omega, fun r h => Ev.succ ?_⟩
     simp only [laws_szCardS.l0, laws_szCard.f, h1, if_true, nat_nonneg, rdcL, wrap_id (x := a - ((l.getD j z39).f0.size : Int)) (by omega) (by omega), eq_false hc, if_false, Option.bind_some, wrap_succ (show j < 4611686018427387904 by omega)]
     exact h)
   (by
    intro a _ _
    refine Ev.succ ?_
    simp only [laws_szCardS.l0, Int.lt_irrefl, if_false]
    exact Ev.now _)
   0 (Nat.zero_le _) (1048576 - (l.length : Int)) (by omega) (by omega)
  refine ⟨r, fun _ => by omega, ?_⟩
  simp only [eq_false h0, if_false]
  exact hr
theorem csz_map (l : List S39) (hz : ∀ y, y ∈ l → B39 y) : CSz (l.map cconv) := by
 intro i hi
 rw [List.length_map] at hi
 have hy := hz (l.getD i z39) (by rw [List.getD_eq_getElem?_getD, List.getElem?_eq_getElem hi]; exact List.getElem_mem hi)
 unfold cat
 rw [getD_map cconv l i z39 _ hi]
 exact hy.1
def gk (x : S41) : List UInt8 := x.f0.data.toList
theorem cless (x y : S41) : Op.bytesLess x.f0.toList y.f0.toList = decide (gk x < gk y) := by rw [ByteArray.toList_eq, ByteArray.toList_eq, Go.Proofs.bytesLess_eq]; rfl
theorem cat_get (l : List S41) (j : Nat) (h : j < l.length) : cat l j = l[j] := by unfold cat; rw [List.getD_eq_getElem?_getD, List.getElem?_eq_getElem h]; rfl
theorem adj_pairwise {α : Type} {R : α → α → Prop} (tr : ∀ a b c, R a b → R b c → R a c) (l : List α) (h : ∀ i (hi : i + 1 < l.length), R (l[i]'(by omega)) l[i + 1]) : l.Pairwise R := by
 rw [List.pairwise_iff_getElem]
 intro i j hi hj hij
 obtain ⟨d, rfl⟩ : ∃ d, j = i + 1 + d := ⟨j - (i + 1), by omega⟩
 clear hij
 induction d with
 | zero => exact h i hj
 | succ d ih => exact tr _ _ _ (ih (by omega)) (h (i + 1 + d) (by omega))
theorem cgood_iff (l : List S41) : cgoodB l = true ↔ (∀ x, x ∈ l → cOk x = true) ∧ l.Pairwise (fun a b => gk a < gk b) ∧ l.length ≤ 20 := by
 have key : (List.range l.length).all (cAt l) = true ↔ ∀ i, i < l.length → cAt l i = true := by simp
 unfold cgoodB
 by_cases h : (List.range l.length).all (cAt l) = true
 ·rw [if_pos h, decide_eq_true_eq]
  rw [key] at h
  refine ⟨fun h2 => ⟨fun x hx => ?_, adj_pairwise (R := fun a b => gk a < gk b) (fun a b c h1 h2 => List.lt_trans h1 h2) l fun i hi => ?_, h2⟩, fun h2 => h2.2.2⟩
  ·obtain ⟨i, hi, rfl⟩ := List.mem_iff_getElem.1 hx
   have := h i hi
   unfold cAt at this
   rw [Bool.and_eq_true, cat_get l i hi] at this
   exact this.1
  ·have := h (i + 1) hi
   unfold cAt at this
   rw [Bool.and_eq_true, Nat.add_sub_cancel, cat_get l _ hi, cat_get l i (by omega), cless] at this
   simpa using this.2
 ·rw [if_neg h]
  refine ⟨fun h2 => by simp at h2, fun ⟨h1, h2, h3⟩ => absurd (key.2 fun i hi => ?_) h⟩
  unfold cAt
  rw [Bool.and_eq_true, cat_get l i hi]
  refine ⟨h1 _ (List.getElem_mem hi), ?_⟩
  by_cases h0 : i = 0
  ·simp [h0]
  ·rw [cat_get l (i - 1) (by omega), cless, decide_eq_true (List.pairwise_iff_getElem.1 h2 (i - 1) i (by omega) hi (by omega))]
   simp
end Go.Proofs.YtcpkobahiciadaaDoor.Pure
namespace Go.Proofs.YtcpkobahiciadaaDoor.Pure
open Go.RowKit Go.Proofs.YtcpkobahiciadaaDoor.Q Go.Proofs.YtcpkobahiciadaaDoorW.PrintWords Go.Proofs.YtcpkobahiciadaaDoorW.PrintLast

def cardT (x : S41) : ByteArray := ((((x.f0 ++ (⟨#[47]⟩ : ByteArray)) ++ dig x.f1.toNat) ++ (⟨#[64]⟩ : ByteArray)) ++ dig x.f2.toNat) ++ (⟨#[59]⟩ : ByteArray)
def cardsT : List S41 → ByteArray → ByteArray
 | [], t => t
 | x :: l, t => cardsT l (t ++ cardT x)
theorem cok_nums {x : S41} (h : cOk x = true) : x.f0.size ≤ 8 ∧ (∃ b : Nat, x.f1 = (b : Int) ∧ b ≤ 5) ∧ ∃ u : Nat, x.f2 = (u : Int) ∧ u ≤ 99999 := by
 unfold cOk cardB glossB inB at h
 simp only [Bool.and_eq_true, decide_eq_true_eq] at h
 obtain ⟨⟨⟨_, h1⟩, _⟩, ⟨h2, h3⟩, h4, h5⟩ := h
 exact ⟨by omega, ⟨x.f1.toNat, by omega, by omega⟩, x.f2.toNat, by omega, by omega⟩
theorem cardT_size {x : S41} {b u : Nat} (hz : x.f0.size ≤ 8) (hb : x.f1 = (b : Int)) (hb5 : b ≤ 5) (hu : x.f2 = (u : Int)) (hu9 : u ≤ 99999) : (cardT x).size ≤ 200000 := by
 have hs1 := dig_size b
 have hs2 := dig_size u
 have l1 : (⟨#[47]⟩ : ByteArray).size = 1 := rfl
 have l2 : (⟨#[64]⟩ : ByteArray).size = 1 := rfl
 have l3 : (⟨#[59]⟩ : ByteArray).size = 1 := rfl
 unfold cardT
 rw [hb, hu, Int.toNat_natCast, Int.toNat_natCast]
 simp only [ByteArray.size_append, l1, l2, l3]
 omega
theorem specCardsT_l0 (l : List S41) (hl : l.length ≤ 20) (hg : ∀ x, x ∈ l → cOk x = true) : ∀ d j (t : ByteArray), j + d = l.length → t.size ≤ j * 200000 → Ev (fun k => spec_CardsText.l0 k t l (l.length : Int) (j : Int)) (cardsT (l.drop j) t, true) := by
 intro d
 induction d with
 | zero =>
  intro j t hj ht
  refine Ev.succ ?_
  simp only [spec_CardsText.l0, show ((j : Int) < (l.length : Int)) = False from eq_false (by omega), if_false]
  rw [List.drop_of_length_le (by omega)]
  exact Ev.now _
 | succ d ih =>
  intro j t hj ht
  have hlt : j < l.length := by omega
  have e1 : l.drop j = cat l j :: l.drop (j + 1) := by rw [cat_get l j hlt]; exact List.drop_eq_getElem_cons hlt
  have hx : cOk (cat l j) = true := by rw [cat_get l j hlt]; exact hg _ (List.getElem_mem hlt)
  obtain ⟨hz, ⟨b, hb, hb5⟩, u, hu, hu9⟩ := cok_nums hx
  have hT := cardT_size hz hb hb5 hu hu9
  have hs1 := dig_size b
  have hs2 := dig_size u
  have key := ih (j + 1) (t ++ cardT (cat l j)) (by omega) (by rw [ByteArray.size_append]; omega)
  rw [e1]
  unfold cardsT
  have hc : cardT (cat l j) = (((((cat l j).f0 ++ (⟨#[47]⟩ : ByteArray)) ++ dig b) ++ (⟨#[64]⟩ : ByteArray)) ++ dig u) ++ (⟨#[59]⟩ : ByteArray) := by unfold cardT; rw [hb, hu, Int.toNat_natCast, Int.toNat_natCast]
  have l1 : (⟨#[47]⟩ : ByteArray).size = 1 := rfl
  have l2 : (⟨#[64]⟩ : ByteArray).size = 1 := rfl
  have l3 : (⟨#[59]⟩ : ByteArray).size = 1 := rfl
  obtain ⟨g, hgq⟩ : ∃ g, (cat l j).f0 = g := ⟨_, rfl⟩
  rw [hgq] at hz hc
  refine Ev.succ ?_
  have g1 : (g.size + 1 ≤ 9223372036854775807) = True := eq_true (by omega)
  have g2 : ((g ++ (⟨#[47]⟩ : ByteArray)).size + (dig b).size ≤ 9223372036854775807) = True := eq_true (by simp only [ByteArray.size_append, l1]; omega)
  have g3 : (((g ++ (⟨#[47]⟩ : ByteArray)) ++ dig b).size + 1 ≤ 9223372036854775807) = True := eq_true (by simp only [ByteArray.size_append, l1]; omega)
  have g4 : ((((g ++ (⟨#[47]⟩ : ByteArray)) ++ dig b) ++ (⟨#[64]⟩ : ByteArray)).size + (dig u).size ≤ 9223372036854775807) = True := eq_true (by simp only [ByteArray.size_append, l1, l2]; omega)
  have g5 : (((((g ++ (⟨#[47]⟩ : ByteArray)) ++ dig b) ++ (⟨#[64]⟩ : ByteArray)) ++ dig u).size + 1 ≤ 9223372036854775807) = True := eq_true (by simp only [ByteArray.size_append, l1, l2]; omega)
  have g6 : (t.size + (((((g ++ (⟨#[47]⟩ : ByteArray)) ++ dig b) ++ (⟨#[64]⟩ : ByteArray)) ++ dig u) ++ (⟨#[59]⟩ : ByteArray)).size ≤ 9223372036854775807) = True := eq_true (by simp only [ByteArray.size_append, l1, l2, l3]; omega)
  simp only [spec_CardsText.l0, show ((j : Int) < (l.length : Int)) = True from eq_true (by omega), if_true, nat_nonneg, rdc, wrap_succ (show j < 4611686018427387904 by omega), hb, hu, hgq, g1]
  refine Ev.bind (l1Num_ev b (by omega)) ?_
  simp only [g2, g3, if_true]
  refine Ev.bind (l1Num_ev u (by omega)) ?_
  simp only [g4, g5, g6, if_true]
  rw [hc] at key ⊢
  exact key
theorem implCardsT_l0 (l : List S41) (hl : l.length ≤ 20) (hg : ∀ x, x ∈ l → cOk x = true) : ∀ d j (t : ByteArray), j + d = l.length → t.size ≤ j * 200000 → Ev (fun k => impl_CardsText.l0 k t l (l.length : Int) (j : Int)) (cardsT (l.drop j) t, true) := by
 intro d
 induction d with
 | zero =>
  intro j t hj ht
  refine Ev.succ ?_
  simp only [impl_CardsText.l0, show ((j : Int) < (l.length : Int)) = False from eq_false (by omega), if_false]
  rw [List.drop_of_length_le (by omega)]
  exact Ev.now _
 | succ d ih =>
  intro j t hj ht
  have hlt : j < l.length := by omega
  have e1 : l.drop j = cat l j :: l.drop (j + 1) := by rw [cat_get l j hlt]; exact List.drop_eq_getElem_cons hlt
  have hx : cOk (cat l j) = true := by rw [cat_get l j hlt]; exact hg _ (List.getElem_mem hlt)
  obtain ⟨hz, ⟨b, hb, hb5⟩, u, hu, hu9⟩ := cok_nums hx
  have hT := cardT_size hz hb hb5 hu hu9
  have hs1 := dig_size b
  have hs2 := dig_size u
  have key := ih (j + 1) (t ++ cardT (cat l j)) (by omega) (by rw [ByteArray.size_append]; omega)
  rw [e1]
  unfold cardsT
  have hc : cardT (cat l j) = (((((cat l j).f0 ++ (⟨#[47]⟩ : ByteArray)) ++ dig b) ++ (⟨#[64]⟩ : ByteArray)) ++ dig u) ++ (⟨#[59]⟩ : ByteArray) := by unfold cardT; rw [hb, hu, Int.toNat_natCast, Int.toNat_natCast]
  have l1 : (⟨#[47]⟩ : ByteArray).size = 1 := rfl
  have l2 : (⟨#[64]⟩ : ByteArray).size = 1 := rfl
  have l3 : (⟨#[59]⟩ : ByteArray).size = 1 := rfl
  obtain ⟨g, hgq⟩ : ∃ g, (cat l j).f0 = g := ⟨_, rfl⟩
  rw [hgq] at hz hc
  refine Ev.succ ?_
  have g1 : (g.size + 1 ≤ 9223372036854775807) = True := eq_true (by omega)
  have g2 : ((g ++ (⟨#[47]⟩ : ByteArray)).size + (dig b).size ≤ 9223372036854775807) = True := eq_true (by simp only [ByteArray.size_append, l1]; omega)
  have g3 : (((g ++ (⟨#[47]⟩ : ByteArray)) ++ dig b).size + 1 ≤ 9223372036854775807) = True := eq_true (by simp only [ByteArray.size_append, l1]; omega)
  have g4 : ((((g ++ (⟨#[47]⟩ : ByteArray)) ++ dig b) ++ (⟨#[64]⟩ : ByteArray)).size + (dig u).size ≤ 9223372036854775807) = True := eq_true (by simp only [ByteArray.size_append, l1, l2]; omega)
  have g5 : (((((g ++ (⟨#[47]⟩ : ByteArray)) ++ dig b) ++ (⟨#[64]⟩ : ByteArray)) ++ dig u).size + 1 ≤ 9223372036854775807) = True := eq_true (by simp only [ByteArray.size_append, l1, l2]; omega)
  have g6 : (t.size + (((((g ++ (⟨#[47]⟩ : ByteArray)) ++ dig b) ++ (⟨#[64]⟩ : ByteArray)) ++ dig u) ++ (⟨#[59]⟩ : ByteArray)).size ≤ 9223372036854775807) = True := eq_true (by simp only [ByteArray.size_append, l1, l2, l3]; omega)
  simp only [impl_CardsText.l0, show ((j : Int) < (l.length : Int)) = True from eq_true (by omega), if_true, nat_nonneg, rdc, wrap_succ (show j < 4611686018427387904 by omega), hb, hu, hgq, g1, itoa_nat b (by omega), itoa_nat u (by omega), Option.bind_some, g2, g3, g4, g5, g6]
  rw [hc] at key ⊢
  exact key
def ctR (l : List S41) : ByteArray × Bool := if cgoodB l then (cardsT l (⟨#[]⟩ : ByteArray), true) else ((⟨#[]⟩ : ByteArray), false)
theorem specCT_ev (l : List S41) (hl : l.length ≤ 1048576) (hz : CSz l) : Ev (fun k => spec_CardsText.f k l) (ctR l) := by
 unfold spec_CardsText.f ctR
 refine Ev.bind (rpGood_ev l (by omega) hz) ?_
 rcases Bool.eq_false_or_eq_true (cgoodB l) with hg | hg
 ·simp only [hg, if_true]
  obtain ⟨g1, _, g3⟩ := (cgood_iff l).1 hg
  exact specCardsT_l0 l g3 g1 l.length 0 _ (by omega) (by simp [ByteArray.size])
 ·simp only [hg, Bool.false_eq_true, if_false]
  exact Ev.now _
theorem implCT_ev (l : List S41) (hl : l.length ≤ 1048576) (hz : CSz l) : Ev (fun k => impl_CardsText.f k l) (ctR l) := by
 unfold impl_CardsText.f ctR
 refine Ev.bind (areCards_ev l (by omega) hz) ?_
 rcases Bool.eq_false_or_eq_true (cgoodB l) with hg | hg
 ·simp only [hg, if_true]
  obtain ⟨g1, _, g3⟩ := (cgood_iff l).1 hg
  exact implCardsT_l0 l g3 g1 l.length 0 _ (by omega) (by simp [ByteArray.size])
 ·simp only [hg, Bool.false_eq_true, if_false]
  exact Ev.now _
theorem FnExactCardsText : laws_FnExactCardsText.Pure := by
 intro l h hz
 obtain ⟨r, hb, hr⟩ := szCardS_ev l h hz
 refine Ev.rounds ?_
 unfold laws_FnExactCardsText.f
 refine Ev.bind hr ?_
 by_cases h0 : r < 0
 ·simp only [eq_true h0, if_true]
  exact Ev.now _
 simp only [eq_false h0, if_false]
 have hb' := hb (by omega)
 have hk : (l.map cconv).length ≤ 1048576 := by rw [List.length_map]; exact hb'
 have hs := csz_map l hz
 refine Ev.bind (toCardS_ev l h) ?_
 refine Ev.bind (specCT_ev _ hk hs) ?_
 refine Ev.bind (toCardS_ev l h) ?_
 refine Ev.bind (implCT_ev _ hk hs) ?_
 simp only [bne_self_eq_false, if_true]
 refine Ev.succ ?_
 simp only [laws_FnExactCardsText.j0, Bool.false_eq_true, if_false]
 refine Ev.bind (toCardS_ev l h) ?_
 refine Ev.bind (eqCardS_ev _ (by omega)) ?_
 simp only [if_true]
 exact Ev.now _
end Go.Proofs.YtcpkobahiciadaaDoor.Pure
